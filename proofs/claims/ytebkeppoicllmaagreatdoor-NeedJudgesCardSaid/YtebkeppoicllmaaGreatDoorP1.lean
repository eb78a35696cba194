/- Parts of this work: what the functions come to. -/
import Derived.Test.YtebkeppoicllmaaGreatDoorVmc
import Derived.Test.YtebkeppoicllmaaGreatDoorRows
import Derived.KernelRfl
import Derived.IntWalk
noncomputable section
set_option linter.unusedVariables false
set_option linter.unusedSectionVars false
set_option maxRecDepth 100000
namespace Go.Proofs.YtebkeppoicllmaaGreatDoor
open Go.IntKind (u8 u16 u32 u64 i8 i16 i32 i64)
open Go Go.Vm Go.RowKit
abbrev Qq:Program:=Tryz.prog
abbrev Qx:=List (Bool×(V×St))
abbrev Qz:=Exit→List (Option V)→St→Prop
variable [Φ:Frz]
theorem aA:Tryz.prog.follows .mixedOrders=true:=by kernel_rfl
def keyC:List V:=[.int .u32 1116352408,.int .u32 1899447441,.int .u32 3049323471,.int .u32 3921009573,.int .u32 961987163,.int .u32 1508970993,.int .u32 2453635748,.int .u32 2870763221,.int .u32 3624381080,.int .u32 310598401,.int .u32 607225278,.int .u32 1426881987,.int .u32 1925078388,.int .u32 2162078206,.int .u32 2614888103,.int .u32 3248222580,.int .u32 3835390401,.int .u32 4022224774,.int .u32 264347078,.int .u32 604807628,.int .u32 770255983,.int .u32 1249150122,.int .u32 1555081692,.int .u32 1996064986,.int .u32 2554220882,.int .u32 2821834349,.int .u32 2952996808,.int .u32 3210313671,.int .u32 3336571891,.int .u32 3584528711,.int .u32 113926993,.int .u32 338241895,.int .u32 666307205,.int .u32 773529912,.int .u32 1294757372,.int .u32 1396182291,.int .u32 1695183700,.int .u32 1986661051,.int .u32 2177026350,.int .u32 2456956037,.int .u32 2730485921,.int .u32 2820302411,.int .u32 3259730800,.int .u32 3345764771,.int .u32 3516065817,.int .u32 3600352804,.int .u32 4094571909,.int .u32 275423344,.int .u32 430227734,.int .u32 506948616,.int .u32 659060556,.int .u32 883997877,.int .u32 958139571,.int .u32 1322822218,.int .u32 1537002063,.int .u32 1747873779,.int .u32 1955562222,.int .u32 2024104815,.int .u32 2227730452,.int .u32 2361852424,.int .u32 2428436474,.int .u32 2756734187,.int .u32 3204031479,.int .u32 3329325298]
def makesC:List V:=[.func (.func 275) [] [],.func (.func 76) [] []]
def takesC:List V:=[.func (.func 276) [] [],.func (.func 277) [] []]
instance gl:Glob:={n:=11,cells:=fun|0=>some makesC|1=>some takesC|2=>some keyC|_=>none,more:=fun _=>(0,0)}
def T0:Tab:=⟨noT,noL,aT 6⟩
theorem T0_ok:TabOk3 Qq T0:=⟨aJ,aK,au 6⟩
def za_0(n:Int):=(↑(BitVec.ofInt 64 (u64.wrap (i64.wrap (0-n)))&&&BitVec.ofInt 64 31).toNat:Int)
theorem rot_tree(x n:Int)(R:V→Prop):runW Qq T0 6 10 180 [.int .u32 x,.int .i64 n] R=
 (
 bif decide (0≤u64.wrap (32-u64.wrap (za_0 n)))then R (.int u32 (u32.wrap (↑(BitVec.ofInt 32 (u32.wrap (x*2^min
 (u64.wrap (za_0 n)).toNat 32))|||BitVec.ofInt 32 (x.fdiv (2^min (u64.wrap (32-u64.wrap (za_0 n))).toNat 32))).toNat:Int)))else
 False):=by kernel_rfl
def rotI(x n:Int):Int:=u32.wrap (((BitVec.ofInt 32 (u32.wrap (x*2^min (u64.wrap (((BitVec.ofInt 64 (u64.wrap (i64.wrap (0-n)))&&&BitVec.ofInt 64 31).toNat:Nat):Int)).toNat 32))|||
 BitVec.ofInt 32 (x.fdiv (2^min (u64.wrap (32-u64.wrap (((BitVec.ofInt 64 (u64.wrap (i64.wrap (0-n)))&&&BitVec.ofInt 64 31).toNat:Nat):Int))).toNat 32))).toNat:Nat):Int)
def rotF:List V→Option V
 |[.int .u32 x,.int .i64 n]=>some (.int .u32 (rotI x n))
 |_=>none
theorem and31_le(y:BitVec 64):((y&&&BitVec.ofInt 64 31).toNat:Int)≤31:=by
 rw[BitVec.toNat_and];have:(BitVec.ofInt 64 31).toNat=31:=by decide
 rw[this];have:=Nat.and_le_right (n:=y.toNat) (m:=31);omega
theorem rot_ok(args:List V)(v:V)(h:rotF args=some v):FnSat Qq 180 args [] (Is (v,[])):=by
 unfold rotF at h;split at h
 ·rename_i x n;cases h;refine ax (lim:=6) (n:=10) aA T0_ok rfl rfl ?_;rw[rot_tree];unfold za_0;have h1:=and31_le (BitVec.ofInt 64 (u64.wrap (i64.wrap (0-n))));have h2:=IntWalk.u64_in (((BitVec.ofInt 64 (u64.wrap (i64.wrap (0-n)))&&&BitVec.ofInt 64 31).toNat:Nat):Int) ⟨by omega,by omega⟩;refine ac (fun _=>rfl) (fun h=>?_);have h:=bk h;rw[h2,IntWalk.u64_in _ ⟨by omega,by omega⟩]at h;omega
 ·cases h
def T1:Tab:=⟨addP noT 180 rotF,noL,aT 9⟩
theorem T1_ok:TabOk3 Qq T1:=⟨bg aJ rot_ok,aK,au 9⟩
structure W8 where
 a:Int
 b:Int
 c:Int
 d:Int
 e:Int
 f:Int
 g:Int
 h:Int
def W8.cells(x:W8):List V:=[.int .u32 x.a,.int .u32 x.b,.int .u32 x.c,.int .u32 x.d,.int .u32 x.e,.int .u32 x.f,.int .u32 x.g,.int .u32 x.h]
def xorI(a b:Int):Int:=u32.wrap (((BitVec.ofInt 32 a^^^BitVec.ofInt 32 b).toNat:Nat):Int)
def andI(a b:Int):Int:=u32.wrap (((BitVec.ofInt 32 a&&&BitVec.ofInt 32 b).toNat:Nat):Int)
def orI(a b:Int):Int:=u32.wrap (((BitVec.ofInt 32 a|||BitVec.ofInt 32 b).toNat:Nat):Int)
def addI(a b:Int):Int:=u32.wrap (a+b)
def tI(e f g h k w:Int):Int:=addI (addI (addI (addI h (xorI (xorI (rotI e 6) (rotI e 11)) (rotI e 25))) (xorI (andI e f) (andI (xorI 4294967295 e) g))) k) w
def uI(a b c:Int):Int:=addI (xorI (xorI (rotI a 2) (rotI a 13)) (rotI a 22)) (xorI (xorI (andI a b) (andI a c)) (andI b c))
def mixR(x:W8)(k w:Int):W8:=⟨addI (tI x.e x.f x.g x.h k w) (uI x.a x.b x.c),x.a,x.b,x.c,addI x.d (tI x.e x.f x.g x.h k w),x.e,x.f,x.g⟩
def keyI(j:Nat):Int:=aq (keyC.getD j (.bool false))
def wI(ws:List V)(j:Nat):Int:=aq (ws.getD j (.bool false))
def mixL:Nat→Nat→List V→W8→W8
 |0,_,_,x=>x
 |n+1,j,ws,x=>mixL n (j+1) ws (mixR x (keyI j) (wI ws j))
def c8(ws:List V):Bool:=ws.all (ao .u32)
theorem dQ{ws:List V}(h:c8 ws=true){j:Nat}(hj:j<ws.length):ao .u32 (ws.getD j (.bool false))=true:=by
 rw[bX,List.getElem?_eq_getElem hj];exact List.all_eq_true.1 h _ (List.getElem_mem hj)
theorem nU(σ:List Nat):∀ws:List V,c8 ws=true→renL σ ws=some ws
 |[],_=>rfl
 |v::r,h=>by
  unfold c8 at h;rw[List.all_cons,ad]at h;have ih:=nU σ r h.2;cases v<;>simp[ao]at h;simp only[renL,renV,ih]
def za_1(j:Int):=[V.int u32 1116352408,V.int u32 1899447441,V.int u32 3049323471,V.int u32 3921009573,V.int u32 961987163,V.int u32 1508970993,V.int u32 2453635748,V.int u32 2870763221,V.int u32 3624381080,V.int u32 310598401,V.int u32 607225278,V.int u32 1426881987,V.int u32 1925078388,V.int u32 2162078206,V.int u32 2614888103,V.int u32 3248222580,V.int u32 3835390401,V.int u32 4022224774,V.int u32 264347078,V.int u32 604807628,V.int u32 770255983,V.int u32 1249150122,V.int u32 1555081692,V.int u32 1996064986,V.int u32 2554220882,V.int u32 2821834349,V.int u32 2952996808,V.int u32 3210313671,V.int u32 3336571891,V.int u32 3584528711,V.int u32 113926993,V.int u32 338241895,V.int u32 666307205,V.int u32 773529912,V.int u32 1294757372,V.int u32 1396182291,V.int u32 1695183700,V.int u32 1986661051,V.int u32 2177026350,V.int u32 2456956037,V.int u32 2730485921,V.int u32 2820302411,V.int u32 3259730800,V.int u32 3345764771,V.int u32 3516065817,V.int u32 3600352804,V.int u32 4094571909,V.int u32 275423344,V.int u32 430227734,V.int u32 506948616,V.int u32 659060556,V.int u32 883997877,V.int u32 958139571,V.int u32 1322822218,V.int u32 1537002063,V.int u32 1747873779,V.int u32 1955562222,V.int u32 2024104815,V.int u32 2227730452,V.int u32 2361852424,V.int u32 2428436474,V.int u32 2756734187,V.int u32 3204031479,V.int u32 3329325298].getD (0+j.toNat*1) (V.bool false)
def za_2(e f g h j:Int)(ws:List V):=(u32.wrap (u32.wrap (u32.wrap (h+u32.wrap (↑(BitVec.ofInt 32 (u32.wrap (↑(BitVec.ofInt 32 (rotI (e) 6)^^^BitVec.ofInt 32 (rotI (e) 11)).toNat:Int))^^^BitVec.ofInt 32 (rotI (e) 25)).toNat:Int))+u32.wrap (↑(BitVec.ofInt 32 (u32.wrap (↑(BitVec.ofInt 32 (e)&&&BitVec.ofInt 32 (f)).toNat:Int))^^^BitVec.ofInt 32 (u32.wrap (↑(BitVec.ofInt 32 (u32.wrap (↑(BitVec.ofInt 32 4294967295^^^BitVec.ofInt 32 (e)).toNat:Int))&&&BitVec.ofInt 32 (g)).toNat:Int))).toNat:Int))+aq (za_1 j))+aq (ws.getD (0+j.toNat*1) (V.bool false)))
theorem mix_round(a b c d e f g h:Int)(ws:List V)(m:Nat)(j:Int)(r was:List V)(R:Qz):al Qq T1 9 10 (ah 9) 136 58 [2,3,4,5,13] [.ptr 0 0,.ptr 1 0,.ptr 2 0,.ptr 3 0,.int .i64 j] [.row [.int .u32 a,.int .u32 b,.int .u32 c,.int .u32 d,.int .u32 e,.int .u32 f,.int .u32 g,.int .u32 h] 174 8,.row ws 177 m,.row r 174 8,.row was 174 8] R=
 (
 bif decide (j<64)then bif decide (0≤j)&&decide (j<64)then bif (0+j.toNat*1).blt 64 then bif ao u32 (za_1 j)then bif decide (0≤j)&&
 decide (j<64)then bif (0+j.toNat*1).blt ws.length then bif ao u32 (ws.getD (0+j.toNat*1) (.bool false))then R .normal [some (.ptr 0
 0),some (.ptr 1 0),some (.ptr 2 0),some (.ptr 3 0),some (.int i64 (i64.wrap (j+1)))] [.row [.int u32 (u32.wrap
 (u32.wrap (za_2 e f g h j ws)+u32.wrap (u32.wrap (↑(BitVec.ofInt 32 (u32.wrap (↑(BitVec.ofInt 32 (rotI (a) 2)^^^BitVec.ofInt
 32 (rotI (a) 13)).toNat:Int))^^^BitVec.ofInt 32 (rotI (a) 22)).toNat:Int)+u32.wrap (↑(BitVec.ofInt 32 (u32.wrap (↑(BitVec.ofInt 32
 (u32.wrap (↑(BitVec.ofInt 32 (a)&&&BitVec.ofInt 32 (b)).toNat:Int))^^^BitVec.ofInt 32 (u32.wrap (↑(BitVec.ofInt 32 (a)&&&BitVec.ofInt 32
 (c)).toNat:Int))).toNat:Int))^^^BitVec.ofInt 32 (u32.wrap (↑(BitVec.ofInt 32 (b)&&&BitVec.ofInt 32 (c)).toNat:Int))).toNat:Int)))),.int
 u32 (a),.int u32 (b),.int u32 (c),.int u32 (u32.wrap (d+u32.wrap (za_2 e f g h j ws))),.int u32
 (e),.int u32 (f),.int u32 (g)] 174 8,.row ws 177 m,.row r 174 8,.row was 174 8]else False else False else False else False else
 False else False else R (.exit 0) [some (.ptr 0 0),some (.ptr 1 0),some (.ptr 2 0),some (.ptr 3 0),some (.int i64 j)] [.row [.int
 u32 a,.int u32 b,.int u32 c,.int u32 d,.int u32 e,.int u32 f,.int u32 g,.int u32 h]
 174 8,.row ws 177 m,.row r 174 8,.row was 174 8]):=by kernel_rfl
structure MX where
 x:W8
 l:List V
 m:Nat
 r:W8
 was:W8
 j:Nat
def mxV(y:MX):List V:=[.ptr 0 0,.ptr 1 0,.ptr 2 0,.ptr 3 0,.int .i64 y.j]
def mxJ(y:MX):St:=[.row y.x.cells 174 8,.row y.l 177 y.m,.row y.r.cells 174 8,.row y.was.cells 174 8]
def kZ(y:MX):Bool:=c8 y.l&&(Nat.beq y.l.length 64&&Nat.ble y.j 64)
def mxMu(y:MX):Nat:=64-y.j
def mxOutG(ML:Nat→Nat→List V→W8→W8):Asks MX:=fun y K=>K (.exit 0) [.ptr 0 0,.ptr 1 0,.ptr 2 0,.ptr 3 0,.int .i64 64] [.row (ML (64-y.j) y.j y.l y.x).cells 174 8,.row y.l 177 y.m,.row y.r.cells 174 8,.row y.was.cells 174 8]
abbrev mxOut:Asks MX:=mxOutG mixL
theorem tT(x:W8)(l:List V)(hl:c8 l=true)(m:Nat)(r was:W8)(j:Int):Fits 0 [.ptr 0 0,.ptr 1 0,.ptr 2 0,.ptr 3 0,.int .i64 j] [.row x.cells 174 8,.row l 177 m,.row r.cells 174 8,.row was.cells 174 8]
  [some (.ptr 0 0),some (.ptr 1 0),some (.ptr 2 0),some (.ptr 3 0),some (.int .i64 j)] [.row x.cells 174 8,.row l 177 m,.row r.cells 174 8,.row was.cells 174 8]:=
 ⟨[0,1,2,3],[.ptr 0 0,.ptr 1 0,.ptr 2 0,.ptr 3 0,.int .i64 j],rfl,rfl,FitsM.of ⟨.inr ⟨_,.inl rfl,rfl⟩,.inr ⟨.row l 177 m,.inl (by simp only[renB,nU _ l hl]),rfl⟩,.inr ⟨_,.inl rfl,rfl⟩,.inr ⟨_,.inl rfl,rfl⟩,trivial⟩,by decide,fun i hi=>by omega⟩
theorem mx_roundOk(y:MX)(hy:kZ y=true):al Qq T1 9 10 (ah 9) 136 58 [2,3,4,5,13] (mxV y) (mxJ y) (aD 0 kZ mxV mxJ mxMu mxOut y):=by
 obtain⟨x,l,m,r,was,j⟩:=y;have p1:l.length=64:=by
  unfold kZ at hy;rw[ad]at hy;rw[ad]at hy;exact aP hy.2.1
 have p2:j≤64:=by
  unfold kZ at hy;rw[ad]at hy;rw[ad]at hy;exact aw hy.2.2
 have p0:c8 l=true:=by
  unfold kZ at hy;rw[ad]at hy;exact hy.1
 clear hy;show al Qq T1 9 10 (ah 9) 136 58 [2,3,4,5,13] [.ptr 0 0,.ptr 1 0,.ptr 2 0,.ptr 3 0,.int .i64 j] [.row [.int .u32 x.a,.int .u32 x.b,.int .u32 x.c,.int .u32 x.d,.int .u32 x.e,.int .u32 x.f,.int .u32 x.g,.int .u32 x.h] 174 8,.row l 177 m,.row r.cells 174 8,.row was.cells 174 8] _;rw[mix_round];unfold za_2 za_1;cases hb:decide ((j:Int)<64)with
 |true=>
  have hj:j<64:=by have:=aN hb;omega
  have e1:i64.wrap ((j:Int)+1)=((j+1:Nat):Int):=by rw[IntWalk.i64_in _ ⟨by omega,by omega⟩];omega
  have c1:decide ((0:Int)≤(j:Int))=true:=am (by omega);have c2:(0+j*1).blt 64=true:=ag (by omega);have c3:(0+j*1).blt l.length=true:=ag (by omega);have c4:∀i:Fin 64,ao .u32 (keyC.getD i.val (.bool false))=true:=by decide+kernel
  have c5:=c4 ⟨j,hj⟩;have e0:0+j*1=j:=by omega
  rw[bp,c1,c2,c3,e1,e0];simp only[bv,ae];refine aa c5 ?_;refine aa (dQ p0 (by omega)) ?_;refine⟨⟨mixR x (keyI j) (wI l j),l,m,r,was,j+1⟩,?_,tT _ l p0 m r was _,by simp only[mxMu];omega,fun K hK=>?_⟩
  ·unfold kZ;rw[ad,ad];exact⟨p0,by rw[p1];rfl,ag hj⟩
  ·have hK:K _ _ _:=hK;have:64-j=(64-(j+1))+1:=by omega
   rw[this]at hK;exact hK
 |false=>
  have hj:j=64:=by have:=bk hb;omega
  subst hj;exact⟨_,_,fun K hK=>hK,tT x l p0 m r was 64⟩
def mxDec:List (Option V)→St→Option MX
 |[some (.ptr 0 0),some (.ptr 1 0),some (.ptr 2 0),some (.ptr 3 0),some (.int .i64 0)],
  .row [.int .u32 a,.int .u32 b,.int .u32 c,.int .u32 d,.int .u32 e,.int .u32 f,.int .u32 g,.int .u32 h] _ _::.row ws _ m::.row [.int .u32 a2,.int .u32 b2,.int .u32 c2,.int .u32 d2,.int .u32 e2,.int .u32 f2,.int .u32 g2,.int .u32 h2] _ _::.row [.int .u32 a3,.int .u32 b3,.int .u32 c3,.int .u32 d3,.int .u32 e3,.int .u32 f3,.int .u32 g3,.int .u32 h3] _ _::_=>
   some ⟨⟨a,b,c,d,e,f,g,h⟩,ws,m,⟨a2,b2,c2,d2,e2,f2,g2,h2⟩,⟨a3,b3,c3,d3,e3,f3,g3,h3⟩,0⟩
 |_,_=>none
end Go.Proofs.YtebkeppoicllmaaGreatDoor
namespace Go.Proofs.YtebkeppoicllmaaGreatDoor
open Go.IntKind (u8 u16 u32 u64 i8 i16 i32 i64)
open Go Go.Vm Go.RowKit
variable [Φ:Frz]
theorem mT(b:UInt8):i64.wrap (b.toNat:Int)=b.toNat:=IntWalk.i64_in _ ⟨by omega,by have:=b.toNat_lt;omega⟩
theorem jT(b:UInt8):i64.wrap ((b.toNat:Int)-128)=(b.toNat:Int)-128:=IntWalk.i64_in _ ⟨by omega,by have:=b.toNat_lt;omega⟩
theorem od(n:Nat):BitVec.ofInt 64 (n:Int)=BitVec.ofNat 64 n:=by
 apply BitVec.eq_of_toNat_eq;simp
theorem qK(a b:Nat)(ha:a<72057594037927936)(hb:b<256):(BitVec.ofInt 64 ((a:Int)*256)|||BitVec.ofInt 64 (b:Int)).toNat=a*256+b:=by
 have e:((a:Int)*256)=((a*256:Nat):Int):=by simp
 rw[e,od,od,BitVec.toNat_or,BitVec.toNat_ofNat,BitVec.toNat_ofNat,Nat.mod_eq_of_lt (by omega),Nat.mod_eq_of_lt (by omega)];have:=Nat.shiftLeft_add_eq_or_of_lt (i:=8) (b:=b) (by omega) a;rw[Nat.shiftLeft_eq]at this;simpa using this.symm
theorem bor_zero(b:Nat)(hb:b<256):(BitVec.ofInt 64 0|||BitVec.ofInt 64 (b:Int)).toNat=b:=by
 have:=qK 0 b (by omega) hb;simpa using this
theorem and31(n:Nat)(h:n<256):u8.wrap (((BitVec.ofInt 8 (n:Int)&&&BitVec.ofInt 8 31).toNat:Nat):Int)=(n%32:Nat):=by
 have:∀m:Fin 256,u8.wrap (((BitVec.ofInt 8 ((m:Nat):Int)&&&BitVec.ofInt 8 31).toNat:Nat):Int)=((m:Nat)%32:Nat):=by decide+kernel
 exact this ⟨n,h⟩
theorem uA(a b:Nat):Nat.ble a b=decide (a≤b):=by
 cases h:Nat.ble a b with
 |true=>exact(am (aw h)).symm
 |false=>exact(bH fun hl=>by rw[ag hl]at h;cases h).symm
theorem gF(a b:Nat):Nat.blt a b=decide (a<b):=uA (a+1) b
theorem qm(b:UInt8):i64.wrap (1+((b.toNat:Int)-128))=(b.toNat:Int)-127:=by
 rw[IntWalk.i64_in _ ⟨by omega,by have:=b.toNat_lt;omega⟩];omega
def fK(t:Int):Bool:=decide (0≤t)&&decide (t<256)
theorem lH{t:Int}(h:fK t=true):∃n:Nat,t=n∧n<256:=by
 simp only[fK,ad,decide_eq_true_eq]at h;exact⟨t.toNat,by omega,by omega⟩
def lenB(n:Nat):List UInt8:=if n>255 then[130,UInt8.ofNat (n/256),UInt8.ofNat n]else if n>127 then[129,UInt8.ofNat n]else[UInt8.ofNat n]
def putE(t:Int)(s:List UInt8):Int:=if t%32=31 then 4 else if s.length>65535 then 40 else 0
def putB(t:Int)(s:List UInt8):List UInt8:=if t%32=31 then[]else if s.length>65535 then[]else UInt8.ofNat t.toNat::(lenB s.length++s)
def putF:List V→Option (Qx)
 |[.agg [.int .u8 t,.str s]]=>some [(fK t,(.tuple [.str (putB t s),.int .i64 (putE t s)],[]))]
 |_=>none
def cC:List UInt8→Nat×Nat×Int
 |[]=>(0,0,8)
 |a::r=>if a.toNat≤127 then(a.toNat,1,0)else if a.toNat=129 then(match r with
   |[]=>(0,0,8)
   |b::_=>if b.toNat≤127 then(0,0,4)else(b.toNat,2,0))
  else if a.toNat=130 then(match r with
   |[]=>(0,0,8)
   |b::r=>if b.toNat=0 then(0,0,4)else match r with
    |[]=>(0,0,8)
    |c::_=>(b.toNat*256+c.toNat,3,0))
  else(0,0,4)
def cT(s:List UInt8):Nat:=(cC s).1
def cu(s:List UInt8):Nat:=(cC s).2.1
def ec(s:List UInt8):Int:=(cC s).2.2
def sizeF:List V→Option V
 |[.str s]=>some (.tuple [.int .i64 (cT s),.int .i64 (cu s),.int .i64 (ec s)])
 |_=>none
def DT0:Tab:=⟨noT,noL,aT 6⟩
theorem DT0_ok:TabOk3 Qq DT0:=⟨aJ,aK,au 6⟩
theorem put_tree(t:Int)(s:List UInt8)(R:V→Prop):runW Qq DT0 6 10 179 [.agg [.int .u8 t,.str s]] R=
  (
 bif !u8.wrap (↑(BitVec.ofInt 8 t&&&BitVec.ofInt 8 31).toNat:Int)!=31 then R (.tuple [.str [],.int i64 4])else bif decide ((↑s.length:Int)>
 65535)then R (.tuple [.str [],.int i64 40])else bif decide ((↑s.length:Int)>255)then bif (4+s.length).ble 9223372036854775807 then R (.tuple [.str
 ([UInt8.ofNat (u8.wrap (i64.wrap t)).toNat,130,UInt8.ofNat (u8.wrap ((↑s.length:Int).fdiv 256)).toNat,UInt8.ofNat (u8.wrap (↑s.length
 :Int)).toNat]++s),.int i64 0])else False else bif decide ((↑s.length:Int)>127)then bif (3+s.length).ble 9223372036854775807 then R (.tuple [.str
 ([UInt8.ofNat (u8.wrap (i64.wrap t)).toNat,129,UInt8.ofNat (u8.wrap (↑s.length:Int)).toNat]++s),.int i64 0])else False else bif
 (2+s.length).ble 9223372036854775807 then R (.tuple [.str ([UInt8.ofNat (u8.wrap (i64.wrap t)).toNat,UInt8.ofNat (u8.wrap (↑s.length:
 Int)).toNat]++s),.int i64 0])else False):=by kernel_rfl
theorem put_ok(args:List V)(l:Qx)(o:V×St)(h:putF args=some l)(ho:aL l=some o):FnSat Qq 179 args [] (Is o):=by
 unfold putF at h;split at h
 ·rename_i t s;cases h;cases ht:fK t with
  |false=>rw[ht]at ho;simp[aL]at ho
  |true=>
   rw[ht]at ho;simp only[aL,ae,af]at ho;subst ho;obtain⟨n,rfl,hn⟩:=lH ht;refine ax (lim:=6) (n:=10) aA DT0_ok rfl rfl ?_;rw[put_tree,and31 n hn];have w1:u8.wrap (i64.wrap (n:Int))=n:=by
    rw[IntWalk.i64_in _ ⟨by omega,by omega⟩,IntKind.wrap_u8];omega
   have w2:UInt8.ofNat (u8.wrap (s.length:Int)).toNat=UInt8.ofNat s.length:=by
    rw[IntKind.wrap_u8];apply UInt8.toNat_inj.1;simp only[UInt8.toNat_ofNat'];omega
   have w3:(s.length:Int)≤65535→UInt8.ofNat (u8.wrap ((s.length:Int).fdiv 256)).toNat=UInt8.ofNat (s.length/256):=by
    intro h;rw[Int.fdiv_eq_ediv_of_nonneg _ (by omega),IntKind.wrap_u8];apply UInt8.toNat_inj.1;simp only[UInt8.toNat_ofNat'];omega
   rw[w1,w2];simp only[bp];refine ac (fun h=>?_) (fun h=>ac (fun h1=>?_) (fun h1=>?_))
   ·have:(n:Int)%32=31:=by simp at h;omega
    simp[putB,putE,this]
   ·have h0:¬(n:Int)%32=31:=by simp at h;omega
    have h1:s.length>65535:=by simp at h1;omega
    simp[putB,putE,h0,h1]
   ·have h0:¬(n:Int)%32=31:=by simp at h;omega
    have h1:¬s.length>65535:=by simp at h1;omega
    rw[w3 (by omega)];have hb:∀k,k≤4→(k+s.length).ble 9223372036854775807=true:=fun k hk=>ag (by omega);rw[hb 4 (by omega),hb 3 (by omega),hb 2 (by omega)];simp only[ae];refine ac (fun h2=>?_) (fun h2=>ac (fun h3=>?_) (fun h3=>?_))
    ·have h2:s.length>255:=by simp at h2;omega
     simp[putB,putE,lenB,h0,h1,h2]
    ·have h2:¬s.length>255:=by simp at h2;omega
     have h3:s.length>127:=by simp at h3;omega
     simp[putB,putE,lenB,h0,h1,h2,h3]
    ·have h2:¬s.length>255:=by simp at h2;omega
     have h3:¬s.length>127:=by simp at h3;omega
     simp[putB,putE,lenB,h0,h1,h2,h3]
 ·cases h
def DT3:Tab:=⟨noT,noL,aT 3⟩
theorem DT3_ok:TabOk3 Qq DT3:=⟨aJ,aK,au 3⟩
def zb_3(s:List UInt8):=(↑(BitVec.ofInt 64 0|||BitVec.ofInt 64 (i64.wrap (↑(s.getD 1 0).toNat:Int))).toNat:Int)
def zb_0(s:List UInt8):=(↑(BitVec.ofInt 64 (i64.wrap (i64.wrap (zb_3 s)*256))|||BitVec.ofInt 64 (i64.wrap (↑(s.getD 2 0).toNat:Int))).toNat:Int)
def zb_1(s:List UInt8):=(i64.wrap (↑(s.getD 0 0).toNat:Int)-128)
def zb_2:=V.tuple [V.int i64 0,V.int i64 0,V.int i64 4]
def zb_4(s:List UInt8):=V.tuple [V.int i64 (i64.wrap (zb_0 s)),V.int i64 (i64.wrap (1+i64.wrap (zb_1 s))),V.int i64 0]
def zb_5(s:List UInt8):=V.tuple [V.int i64 (i64.wrap (zb_3 s)),V.int i64 (i64.wrap (1+i64.wrap (zb_1 s))),V.int i64 0]
def zb_6:=V.tuple [V.int i64 0,V.int i64 0,V.int i64 8]
theorem size_tree(s:List UInt8)(R:V→Prop):runW Qq DT3 6 10 187 [.str s] R=
 (
 bif s==[]then R zb_6 else bif true&&Nat.blt 0 s.length then bif decide ((↑(s.getD 0 0).toNat:Int)≤127)then bif true&&Nat.blt 0 s.length then R
 (.tuple [.int i64 (i64.wrap (↑(s.getD 0 0).toNat:Int)),.int i64 1,.int i64 0])else False else bif true&&Nat.blt 0
 s.length then bif i64.wrap (zb_1 s)!=1 then bif i64.wrap (zb_1 s)!=2 then R zb_2 else bif decide (1≤i64.wrap (zb_1 s))then bif 1
 ==(↑s.length:Int)then R zb_6 else bif true&&Nat.blt 1 s.length then bif i64.wrap (zb_3 s)==0 then R zb_2 else bif decide (2≤i64.wrap
 (zb_1 s))then bif 2==(↑s.length:Int)then R zb_6 else bif true&&Nat.blt 2 s.length then bif i64.wrap (zb_0 s)==0 then R zb_2 else bif decide (3
 ≤i64.wrap (zb_1 s))then bif 3==(↑s.length:Int)then R zb_6 else bif true&&Nat.blt 3 s.length then bif i64.wrap (↑(BitVec.ofInt 64
 (i64.wrap (i64.wrap (zb_0 s)*256))|||BitVec.ofInt 64 (i64.wrap (↑(s.getD 3 0).toNat:Int))).toNat:Int)==0 then R zb_2 else False
 else False else bif i64.wrap (zb_1 s)==1 then bif decide (i64.wrap (zb_0 s)≤127)then R zb_2 else R (zb_4 s)else R (zb_4 s)else False else
 bif i64.wrap (zb_1 s)==1 then bif decide (i64.wrap (zb_3 s)≤127)then R zb_2 else R (zb_5 s)else R (zb_5 s)else False else bif
 i64.wrap (zb_1 s)==1 then R zb_2 else R (.tuple [.int i64 0,.int i64 (i64.wrap (1+i64.wrap (zb_1 s))),.int
 i64 0])else bif decide (1≤i64.wrap (zb_1 s))then bif 1==(↑s.length:Int)then R zb_6 else bif true&&Nat.blt 1 s.length then bif
 i64.wrap (zb_3 s)==0 then R zb_2 else bif decide (2≤i64.wrap (zb_1 s))then bif 2==(↑s.length:Int)then R zb_6 else bif true&&Nat.blt 2
 s.length then bif i64.wrap (zb_0 s)==0 then R zb_2 else bif decide (3≤i64.wrap (zb_1 s))then bif 3==(↑s.length:Int)then R zb_6 else bif
 true&&Nat.blt 3 s.length then bif i64.wrap (↑(BitVec.ofInt 64 (i64.wrap (i64.wrap (zb_0 s)*256))|||BitVec.ofInt 64
 (i64.wrap (↑(s.getD 3 0).toNat:Int))).toNat:Int)==0 then R zb_2 else False else False else bif i64.wrap (zb_1 s)==1 then bif decide
 (i64.wrap (zb_0 s)≤127)then R zb_2 else R (zb_4 s)else R (zb_4 s)else False else bif i64.wrap (zb_1 s)==1 then bif decide
 (i64.wrap (zb_3 s)≤127)then R zb_2 else R (zb_5 s)else R (zb_5 s)else False else bif i64.wrap (zb_1 s)==1 then R zb_2 else R (.tuple
 [.int i64 0,.int i64 (i64.wrap (1+i64.wrap (zb_1 s))),.int i64 0])else False else False):=by kernel_rfl
theorem size_ok(args:List V)(v:V)(h:sizeF args=some v):FnSat Qq 187 args [] (Is (v,[])):=by
 unfold sizeF at h;split at h
 ·rename_i s;cases h;refine ax (lim:=6) (n:=10) aA DT3_ok rfl rfl ?_;rw[size_tree];unfold zb_6 zb_5 zb_4 zb_2 zb_1 zb_0 zb_3
  match s with
  |[]=>rfl
  |[a]=>
   have ha:=a.toNat_lt;simp only[List.getD_cons_zero,mT,jT,qm,gF,bi,List.length_nil,cT,cu,ec,cC]
   repeat' (refine ac (fun h=>?_) (fun h=>?_))
   all_goals simp at*
   all_goals (repeat' split)
   all_goals first|omega|(simp_all;done)|(simp_all;omega)
  |[a,b]=>
   have ha:=a.toNat_lt;have hb:=b.toNat_lt;simp only[List.getD_cons_zero,List.getD_cons_succ,mT,jT,qm,gF,bor_zero _ hb,bi,List.length_nil,cT,cu,ec,cC]
   repeat' (refine ac (fun h=>?_) (fun h=>?_))
   all_goals simp at*
   all_goals (repeat' split)
   all_goals first|omega|(simp_all;done)|(simp_all;omega)
  |a::b::c::r=>
   have ha:=a.toNat_lt;have hb:=b.toNat_lt;have hc:=c.toNat_lt;have w2:i64.wrap (((b.toNat*256+c.toNat:Nat):Int))=(b.toNat*256+c.toNat:Nat):=IntWalk.i64_in _ ⟨by omega,by omega⟩;have w3:i64.wrap ((b.toNat:Int)*256)=(b.toNat:Int)*256:=IntWalk.i64_in _ ⟨by omega,by omega⟩;simp only[List.getD_cons_zero,List.getD_cons_succ,mT,jT,qm,gF,bor_zero _ hb,w3,qK b.toNat c.toNat (by omega) hc,w2,bi,cT,cu,ec,cC]
   repeat' (refine ac (fun h=>?_) (fun h=>?_))
   all_goals simp at*
   all_goals (repeat' split)
   all_goals first|omega|(simp_all;done)|(simp_all;omega)
 ·cases h
def DT1:Tab:=⟨addP (addT noT 179 putF) 187 sizeF,noL,aT 6⟩
theorem DT1_ok:TabOk3 Qq DT1:=⟨bg (aR aJ put_ok) size_ok,aK,au 6⟩
def getE:List UInt8→Int
 |[]=>8
 |t::r=>if t.toNat%32=31 then 4 else if ec r=0 then(if r.length<cu r+cT r then 8 else 0)else ec r
def getT(s:List UInt8):Int:=if getE s=0 then((s.getD 0 0).toNat:Int)else 0
def getX(s:List UInt8):List UInt8:=if getE s=0 then((s.drop 1).drop (cu (s.drop 1))).take (cT (s.drop 1))else[]
def getR(s:List UInt8):List UInt8:=if getE s=0 then((s.drop 1).drop (cu (s.drop 1))).drop (cT (s.drop 1))else[]
def az(s:List UInt8):Bool:=decide (s.length≤1099511627776)
def getF:List V→Option (Qx)
 |[.str s]=>some [(az s,(.tuple [.agg [.int .u8 (getT s),.str (getX s)],.str (getR s),.int .i64 (getE s)],[]))]
 |_=>none
def zb_8(s:List UInt8):=List.take (s.length-1) (List.drop 1 s)
def zb_7(s:List UInt8):=(i64.wrap (1+(↑(cu (zb_8 s)):Int))+(↑(cT (zb_8 s)):Int))
theorem get_tree(s:List UInt8)(R:V→Prop):runW Qq DT1 6 10 147 [.str s] R=
 (
 bif s==[]then R (.tuple [.agg [.int u8 0,.str []],.str [],.int i64 8])else bif true&&Nat.blt 0 s.length then bif !u8.wrap
 (↑(BitVec.ofInt 8 (↑(s.getD 0 0).toNat:Int)&&&BitVec.ofInt 8 31).toNat:Int)!=31 then R (.tuple [.agg [.int u8 0,.str []],.str [],.int
 i64 4])else bif Nat.ble 1 s.length&&s.length.ble s.length then bif ec (zb_8 s)!=0 then R (.tuple [.agg [.int u8 0,.str []],.str
 [],.int i64 (ec (zb_8 s))])else bif decide (i64.wrap ((↑s.length:Int)-i64.wrap (1+(↑(cu (zb_8 s)):Int)))<(↑(cT
 (zb_8 s)):Int))then R (.tuple [.agg [.int u8 0,.str []],.str [],.int i64 8])else bif true&&Nat.blt 0 s.length then bif decide (0≤
 i64.wrap (1+(↑(cu (zb_8 s)):Int)))then bif decide (0≤i64.wrap (zb_7 s))then bif (i64.wrap (1+(↑(cu (zb_8 s)):
 Int))).toNat.ble (i64.wrap (zb_7 s)).toNat&&(i64.wrap (zb_7 s)).toNat.ble s.length then bif decide (0≤i64.wrap (zb_7 s))then bif
 (i64.wrap (zb_7 s)).toNat.ble s.length&&s.length.ble s.length then R (.tuple [.agg [.int u8 (↑(s.getD 0 0).toNat:Int),.str (List.take
 ((i64.wrap (zb_7 s)).toNat-(i64.wrap (1+(↑(cu (zb_8 s)):Int))).toNat) (List.drop (i64.wrap (1+(↑(cu (zb_8 s)):
 Int))).toNat s))],.str (List.take (s.length-(i64.wrap (zb_7 s)).toNat) (List.drop (i64.wrap (zb_7 s)).toNat s)),.int i64 0])else
 False else False else False else False else False else False else False else False):=by kernel_rfl
theorem gY(s:List UInt8):cT s≤65535∧cu s≤3:=by
 unfold cT cu
 match s with
 |[]=>simp[cC]
 |[a]=>
  have ha:=a.toNat_lt;simp only[cC];(repeat' split)<;>simp<;>omega
 |[a,b]=>
  have ha:=a.toNat_lt;have hb:=b.toNat_lt;simp only[cC];(repeat' split)<;>simp<;>omega
 |a::b::c::r=>
  have ha:=a.toNat_lt;have hb:=b.toNat_lt;have hc:=c.toNat_lt;simp only[cC];(repeat' split)<;>simp<;>omega
def N0:Tab:=⟨noT,noL,aT 9⟩
theorem N0_ok:TabOk3 Qq N0:=⟨aJ,aK,au 9⟩
def zc_0(s:List UInt8)(i:Int):=[some (V.str s),some (V.bool false),some (V.bool false),some (V.int i64 (↑s.length:Int)),some (V.int i64 (i64.wrap (i+1)))]
def zc_1(s:List UInt8)(d:Bool)(i:Int):=[some (V.str s),some (V.bool false),some (V.bool d),some (V.int i64 (↑s.length:Int)),some (V.int i64 i)]
def zc_2(s:List UInt8)(i:Int):=(↑(s.getD i.toNat 0).toNat:Int)
theorem lb_round(s:List UInt8)(d:Bool)(i:Int)(R:Qz):al Qq N0 9 10 (ah 9) 178 218 [0,2,3,28,29] [.str s,.bool false,.bool d,.int .i64 s.length,.int .i64 i] [] R=
 (
 bif decide (i<(↑s.length:Int))then bif decide (0≤i)&&i.toNat.blt s.length then bif decide ((zc_2 s i)≥48)then bif decide ((zc_2 s i)≤57)then R
 .normal [some (.str s),some (.bool false),some (.bool d),some (.int i64 (↑s.length:Int)),some (.int i64 (i64.wrap (i+
 1)))] []else bif decide ((zc_2 s i)≥97)then bif decide ((zc_2 s i)≤122)then R .normal (zc_0 s i) []else bif (zc_2 s i)==45 then R .normal (zc_0
 s i) []else R (Exit.goto 0) (zc_1 s d i) []else bif (zc_2 s i)==45 then R .normal (zc_0 s i) []else R (Exit.goto 0) (zc_1 s d i) []else bif decide
 ((zc_2 s i)≥97)then bif decide ((zc_2 s i)≤122)then R .normal (zc_0 s i) []else bif (zc_2 s i)==45 then R .normal (zc_0 s i) []else R
 (Exit.goto 0) (zc_1 s d i) []else bif (zc_2 s i)==45 then R .normal (zc_0 s i) []else R (Exit.goto 0) (zc_1 s d i) []else False else R (.exit 0)
 (zc_1 s d i) []):=by kernel_rfl
theorem ii{s:List UInt8}{i:Nat}(h:s.drop i=[])(hi:i≤s.length):i=s.length:=by
 have:=congrArg List.length h;simp at this;omega
theorem fA{s r:List UInt8}{i:Nat}{c:UInt8}(h:s.drop i=c::r):s.getD i 0=c∧s.drop (i+1)=r∧i<s.length:=by
 have hl:i<s.length:=by
  have:=congrArg List.length h;simp at this;omega
 rw[List.drop_eq_getElem_cons hl]at h;injection h with h1 h2
 exact⟨by rw[bX,List.getElem?_eq_getElem hl,Option.getD_some,h1],h2,hl⟩
def eh(b:UInt8):Nat:=if 48≤b.toNat∧b.toNat≤57 then 0 else if(97≤b.toNat∧b.toNat≤122)∨b.toNat=45 then 1 else 2
def dI(s:List UInt8):Bool:=s.all fun b=>Nat.blt (eh b) 2
def cH(s:List UInt8):Bool:=s.all fun b=>Nat.beq (eh b) 0
structure LB where
 s:List UInt8
 d:Bool
 i:Nat
def lbV(x:LB):List V:=[.str x.s,.bool false,.bool x.d,.int .i64 x.s.length,.int .i64 x.i]
def lbJ(_:LB):St:=[]
def k9(x:LB):Bool:=Nat.ble x.i x.s.length&&Nat.ble x.s.length 63
def lbMu(x:LB):Nat:=x.s.length-x.i
def lbDec:List (Option V)→St→Option LB
 |[some (.str s),some (.bool false),some (.bool d),some (.int .i64 _),some (.int .i64 0)],_=>some ⟨s,d,0⟩
 |_,_=>none
def nG(g d:Bool)(s:List UInt8)(K:Exit→List V→St→Prop):Prop:=
 bif g then K (.exit 0) [.str s,.bool false,.bool d,.int .i64 s.length,.int .i64 s.length] []else ∀(e:Bool) (j:Int),K (.goto 0) [.str s,.bool false,.bool e,.int .i64 s.length,.int .i64 j] []
def lbOut:Asks LB:=fun x K=>nG (dI (x.s.drop x.i)) (x.d&&cH (x.s.drop x.i)) x.s K
theorem aV(vs:List V)(h:aM vs=true)(l:List (Option V))(hl:l=vs.map some)(st:St):Fits 0 vs [] l st:=⟨[],vs,hl,aC vs h,FitsM.of trivial,by simp,fun i hi=>by omega⟩
theorem lb_roundOk(x:LB)(hx:k9 x=true):al Qq N0 9 10 (ah 9) 178 218 [0,2,3,28,29] (lbV x) (lbJ x) (aD 0 k9 lbV lbJ lbMu lbOut x):=by
 obtain⟨s,d,i⟩:=x;unfold k9 at hx;rw[ad]at hx;have p1:i≤s.length:=aw hx.1;have p2:s.length≤63:=aw hx.2;show al Qq N0 9 10 (ah 9) 178 218 [0,2,3,28,29] [.str s,.bool false,.bool d,.int .i64 s.length,.int .i64 i] [] _;rw[lb_round];unfold zc_2 zc_1 zc_0;cases hd:s.drop i with
 |nil=>
  have hi:=ii hd p1;rw[bH (show ¬((i:Int)<(s.length:Int)) by omega),ak];refine⟨[.str s,.bool false,.bool d,.int .i64 s.length,.int .i64 i],[],fun K hK=>?_,aV _ rfl _ rfl _⟩;have hK:nG (dI (s.drop i)) (d&&cH (s.drop i)) s K:=hK;rw[hd]at hK;simp only[nG,dI,cH,List.all_nil,ae,Bool.and_true]at hK;rw[hi];exact hK
 |cons c r=>
  obtain⟨e1,e2,e3⟩:=fA hd;have hc:=c.toNat_lt;rw[am (show((i:Int)<(s.length:Int)) by omega),ae];simp only[bp,e1];have hm:(decide ((0:Int)≤(i:Int))&&i.blt s.length)=true:=by rw[ad];exact⟨am (by omega),ag e3⟩
  rw[hm,ae,show i64.wrap ((i:Int)+1)=((i+1:Nat):Int) by rw[IntWalk.i64_in _ ⟨by omega,by omega⟩];omega];have again:∀b:Bool,eh c<2→(d&&cH (c::r))=(b&&cH r)→aD 0 k9 lbV lbJ lbMu lbOut ⟨s,d,i⟩ .normal [some (.str s),some (.bool false),some (.bool b),some (.int .i64 s.length),some (.int .i64 ((i+1:Nat):Int))] []:=by
   intro b h1 h2;refine⟨⟨s,b,i+1⟩,?_,aV _ rfl _ rfl _,by simp only[lbMu];omega,fun K hK=>?_⟩
   ·unfold k9;rw[ad];exact⟨ag (show i+1≤s.length by omega),ag p2⟩
   ·have hK:nG (dI (s.drop i)) (d&&cH (s.drop i)) s K:=hK;show nG (dI (s.drop (i+1))) (b&&cH (s.drop (i+1))) s K;rw[hd,h2]at hK;rw[e2];have:dI (c::r)=dI r:=by
     have:Nat.blt (eh c) 2=true:=ag h1;simp only[dI,List.all_cons,this,aH]
    rw[this]at hK;exact hK
  have bad:2≤eh c→aD 0 k9 lbV lbJ lbMu lbOut ⟨s,d,i⟩ (.goto 0) [some (.str s),some (.bool false),some (.bool d),some (.int .i64 s.length),some (.int .i64 (i:Int))] []:=by
   intro h1;refine⟨[.str s,.bool false,.bool d,.int .i64 s.length,.int .i64 i],[],fun K hK=>?_,aV _ rfl _ rfl _⟩;have hK:nG (dI (s.drop i)) (d&&cH (s.drop i)) s K:=hK;have:dI (c::r)=false:=by
    have:Nat.blt (eh c) 2=false:=by rw[gF];exact bH (by omega)
    simp only[dI,List.all_cons,this,Bool.false_and]
   rw[hd,this]at hK;exact hK d i
  have k0:48≤c.toNat→c.toNat≤57→eh c=0:=fun a b=>by unfold eh;rw[if_pos ⟨a,b⟩]
  have k1:¬(48≤c.toNat∧c.toNat≤57)→(97≤c.toNat∧c.toNat≤122)∨c.toNat=45→eh c=1:=fun a b=>by unfold eh;rw[if_neg a,if_pos b]
  have k2:¬(48≤c.toNat∧c.toNat≤57)→¬((97≤c.toNat∧c.toNat≤122)∨c.toNat=45)→eh c=2:=fun a b=>by unfold eh;rw[if_neg a,if_neg b]
  have d0:eh c=0→(d&&cH (c::r))=(d&&cH r):=fun h=>by simp only[cH,List.all_cons,h];rfl
  have d1:eh c=1→(d&&cH (c::r))=(false&&cH r):=fun h=>by simp only[cH,List.all_cons,h];cases d<;>rfl
  repeat' (refine ac (fun h=>?_) (fun h=>?_))
  all_goals simp only[decide_eq_true_eq,decide_eq_false_iff_not,beq_iff_eq,beq_eq_false_iff_ne]at*
  ·have hk:=k0 (by omega) (by omega);exact again d (by omega) (d0 hk)
  ·have hk:=k1 (by omega) (by omega);exact again false (by omega) (d1 hk)
  ·have hk:=k1 (by omega) (by omega);exact again false (by omega) (d1 hk)
  ·exact bad (by rw[k2 (by omega) (by omega)];exact Nat.le_refl _)
  ·have hk:=k1 (by omega) (by omega);exact again false (by omega) (d1 hk)
  ·exact bad (by rw[k2 (by omega) (by omega)];exact Nat.le_refl _)
  ·have hk:=k1 (by omega) (by omega);exact again false (by omega) (d1 hk)
  ·have hk:=k1 (by omega) (by omega);exact again false (by omega) (d1 hk)
  ·exact bad (by rw[k2 (by omega) (by omega)];exact Nat.le_refl _)
  ·have hk:=k1 (by omega) (by omega);exact again false (by omega) (d1 hk)
  ·exact bad (by rw[k2 (by omega) (by omega)];exact Nat.le_refl _)
def lk53:Nat→Trans→Trans:=ba 218 (bK 0 (szOf Qq 178) [0,2,3,28,29] lbDec k9 lbV lbJ lbOut) (ah 9)
theorem lk53_ok:aQ Qq 0 lk53 178:=by
 unfold lk53;exact bB (aY 9 0 178) (by kernel_rfl) fun f st Q h=>bc (P:=Qq) (T:=N0) (k:=0) (lim:=9) (n:=10) (g:=178) (p0:=218) (lk:=ah 9) aA N0_ok (bf 9 _ _) lbMu lb_roundOk h
def N1:Tab:=⟨noT,noL,cI (aT 9) 178 0 lk53⟩
theorem N1_ok:TabOk3 Qq N1:=⟨aJ,aK,bq (au 9) lk53_ok⟩
theorem lab_tree(s:List UInt8)(R:V→Prop):runW Qq N1 9 20 178 [.str s] R=
  (
 bif decide ((↑s.length:Int)<1)then R (.tuple [.bool false,.bool false])else bif decide ((↑s.length:Int)>63)then R (.tuple [.bool false,.bool false])
 else bif true&&Nat.blt 0 s.length then bif (↑(s.getD 0 0).toNat:Int)==45 then R (.tuple [.bool false,.bool false])else bif decide (0≤i64.wrap
 ((↑s.length:Int)-1))&&(i64.wrap ((↑s.length:Int)-1)).toNat.blt s.length then bif (↑(s.getD (i64.wrap ((↑s.length:Int)-1)).toNat 0).toNat:
 Int)==45 then R (.tuple [.bool false,.bool false])else Fits 0 [.str s,.bool false,.bool true,.int i64 (↑s.length:Int),.int i64 0] []
 [some (.str s),some (.bool false),some (.bool true),some (.int i64 (↑s.length:Int)),some (.int i64 0)] []∧bif k9 {s:=s,d:=true,i:=0}
 then bif dI (List.drop 0 s)then R (.tuple [.bool true,.bool (true&&cH (List.drop 0 s))])else ∀(e:Bool) (j:Int),R (.tuple [.bool false,.bool
 false])else False else False else False):=by kernel_rfl
theorem cut_tree(s:List UInt8)(R:V→Prop):runW Qq N0 9 20 123 [.str s,.str [46]] R=
  (
 bif [46]==s then bif Nat.ble 1 s.length&&s.length.ble s.length then R (.tuple [.str (List.take 0 (List.drop 0 s)),.str (List.take (s.length-1) (List.drop 1 s)),
 .bool true])else False else bif decide (Lib.indexByte s 46≥0)then bif decide (0≤Lib.indexByte s 46)then bif true&&(Lib.indexByte s 46).toNat.ble s.length then
 bif decide (0≤i64.wrap (Lib.indexByte s 46+1))then bif (i64.wrap (Lib.indexByte s 46+1)).toNat.ble s.length&&s.length.ble s.length then R
 (.tuple [.str (List.take ((Lib.indexByte s 46).toNat-0) (List.drop 0 s)),.str (List.take (s.length-(i64.wrap (Lib.indexByte s 46+1)).toNat) (List.drop
 (i64.wrap (Lib.indexByte s 46+1)).toNat s)),.bool true])else False else False else False else False else R (.tuple [.str s,.str [],.bool false])):=by kernel_rfl
theorem tp_tree(s:List UInt8)(R:V→Prop):runW Qq N0 9 20 177 [.str s,.str [42,46]] R=
  (
 bif decide ((↑s.length:Int)≥2)then bif true&&Nat.ble 2 s.length then bif List.take 2 (List.drop 0 s)==[42,46]then bif Nat.ble 2 s.length&&s.length.ble
 s.length then R (.str (List.take (s.length-2) (List.drop 2 s)))else False else R (.str s)else False else R (.str s)):=by kernel_rfl
def cG(s:List UInt8):Bool:=decide (1≤s.length)&&(decide (s.length≤63)&&(!((s.getD 0 0).toNat==45)&&(!((s.getD (s.length-1) 0).toNat==45)&&dI s)))
def labP:List V→Option V
 |[.str s]=>some (.tuple [.bool (cG s),.bool (cG s&&cH s)])
 |_=>none
theorem lab_ok(args:List V)(v:V)(h:labP args=some v):FnSat Qq 178 args [] (Is (v,[])):=by
 unfold labP at h;split at h
 ·rename_i s;cases h;refine ax (lim:=9) (n:=20) aA N1_ok rfl rfl ?_;rw[lab_tree];unfold cG;refine ac (fun h=>?_) (fun h=>?_)
  ·have h:=aN h;rw[bH (show ¬1≤s.length by omega)];rfl
  have h:=bk h;rw[am (show 1≤s.length by omega)];refine ac (fun h1=>?_) (fun h1=>?_)
  ·have h1:=aN h1;rw[bH (show ¬s.length≤63 by omega)];rfl
  have h1:=bk h1;rw[am (show s.length≤63 by omega)];have e1:i64.wrap ((s.length:Int)-1)=((s.length-1:Nat):Int):=by rw[IntWalk.i64_in _ ⟨by omega,by omega⟩];omega
  have e2:(true&&Nat.blt 0 s.length)=true:=by rw[aH];exact ag (by omega)
  have e3:(decide ((0:Int)≤((s.length-1:Nat):Int))&&(s.length-1).blt s.length)=true:=by rw[ad];exact⟨am (by omega),ag (by omega)⟩
  have c1:∀b:UInt8,((b.toNat:Int)==45)=(b.toNat==45):=fun b=>by
   rw[Bool.eq_iff_iff,beq_iff_eq,beq_iff_eq];omega
  have c2:k9 ⟨s,true,0⟩=true:=by unfold k9;rw[ad];exact⟨ag (Nat.zero_le _),ag (show s.length≤63 by omega)⟩
  simp only[e1,e2,bp,e3,ae,c1,c2,List.drop_zero,aH];refine ac (fun h2=>?_) (fun h2=>?_)
  ·rw[h2];rfl
  refine ac (fun h3=>?_) (fun h3=>?_)
  ·rw[h2,h3];rfl
  refine⟨aV _ rfl _ rfl _,?_⟩;rw[h2,h3];refine ac (fun h4=>?_) (fun h4=>?_)
  ·rw[h4];rfl
  ·intro _ _;rw[h4];rfl
 ·cases h
def cutA:List UInt8→List UInt8×Option (List UInt8)
 |[]=>([],none)
 |c::r=>if c=46 then([],some r)else(c::(cutA r).1,(cutA r).2)
theorem kH:∀s:List UInt8,(Lib.indexByte s 46=-1∧cutA s=(s,none))∨∃o:Nat,Lib.indexByte s 46=o∧o<s.length∧cutA s=(s.take o,some (s.drop (o+1)))
 |[]=>.inl ⟨rfl,rfl⟩
 |c::r=>by
  by_cases hc:c=46
  ·subst hc;exact .inr ⟨0,by simp[Lib.indexByte],by simp,by simp[cutA]⟩
  ·have h1:(c==46)=false:=by simpa using hc
   rcases kH r with⟨h2,h3⟩|⟨o,h2,h3,h4⟩
   ·exact .inl ⟨by simp[Lib.indexByte,h1,h2],by simp[cutA,hc,h3]⟩
   ·refine .inr ⟨o+1,?_,by simp only[bi];omega,by simp[cutA,hc,h4]⟩;have:(((o:Int))==-1)=false:=by
     cases hq:((o:Int)==-1)with
     |false=>rfl
     |true=>have:=beq_iff_eq.1 hq;omega
    simp[Lib.indexByte,h1,h2,this]
def cutB(s:List UInt8):List UInt8:=(cutA s).1
def cutR(s:List UInt8):List UInt8:=(cutA s).2.getD []
def cutM(s:List UInt8):Bool:=(cutA s).2.isSome
def cutP:List V→Option (Qx)
 |[.str s,.str [46]]=>some [(az s,(.tuple [.str (cutB s),.str (cutR s),.bool (cutM s)],[]))]
 |_=>none
theorem qC(args:List V)(l:Qx)(o:V×St)(h:cutP args=some l)(ho:aL l=some o):FnSat Qq 123 args [] (Is o):=by
 unfold cutP at h;split at h
 ·rename_i s;cases h;cases hk:az s with
  |false=>rw[hk]at ho;cases ho
  |true=>
   rw[hk]at ho;cases ho;have hl:s.length≤1099511627776:=aN hk;refine ax (lim:=9) (n:=20) aA N0_ok rfl rfl ?_;rw[cut_tree];unfold cutB cutR cutM;refine ac (fun h1=>?_) (fun h1=>?_)
   ·have h1:[46]=s:=eq_of_beq h1;subst h1;rfl
   ·rcases kH s with⟨h2,h3⟩|⟨o,h2,h3,h4⟩
    ·rw[h2,h3];rfl
    ·rw[h2,h4];have e1:i64.wrap ((o:Int)+1)=((o+1:Nat):Int):=by rw[IntWalk.i64_in _ ⟨by omega,by omega⟩];omega
     simp only[e1,bp];refine ac (fun _=>?_) (fun h5=>absurd (bk h5) (by omega));refine aa (am (by omega)) (aa (by rw[aH];exact ag (by omega)) (aa (am (by omega)) (aa ?_ ?_)))
     ·rw[ad];exact⟨ag (by omega),ag (Nat.le_refl _)⟩
     ·simp only[Nat.sub_zero,List.drop_zero,Option.getD_some,Option.isSome_some];rw[cz (l:=s.drop (o+1)) (by rw[List.length_drop];omega)]
 ·cases h
def cV(s:List UInt8):List UInt8:=if s.take 2=[42,46]then s.drop 2 else s
def tpP:List V→Option V
 |[.str s,.str [42,46]]=>some (.str (cV s))
 |_=>none
theorem tp_ok(args:List V)(v:V)(h:tpP args=some v):FnSat Qq 177 args [] (Is (v,[])):=by
 unfold tpP at h;split at h
 ·rename_i s;cases h;refine ax (lim:=9) (n:=20) aA N0_ok rfl rfl ?_;rw[tp_tree];unfold cV;refine ac (fun h1=>?_) (fun h1=>?_)
  ·have h1:=aN h1;have e:(true&&Nat.ble 2 s.length)=true:=by rw[aH];exact ag (by omega)
   rw[e,ae,List.drop_zero];refine ac (fun h2=>?_) (fun h2=>?_)
   ·have e2:(Nat.ble 2 s.length&&s.length.ble s.length)=true:=by rw[ad];exact⟨ag (by omega),ag (Nat.le_refl _)⟩
    rw[e2,ae,if_pos (eq_of_beq h2),cz (by rw[List.length_drop];omega)]
   ·rw[if_neg (fun h3=>by rw[h3]at h2;cases h2)]
  ·have h1:=bk h1;rw[if_neg];intro h3;have:=congrArg List.length h3;simp at this;omega
 ·cases h
def N2:Tab:=⟨addP (addT (addP noT 178 labP) 123 cutP) 177 tpP,noL,aT 9⟩
theorem N2_ok:TabOk3 Qq N2:=⟨bg (aR (bg aJ lab_ok) qC) tp_ok,aK,au 9⟩
def fd:Code→Option (Array Tmp×Code×Code)
 |.seq a b=>(fd a).or (fd b)
 |.cond _ a b=>(fd a).or (fd b)
 |.block _ c=>fd c
 |.loop c=>fd c
 |.rangeFunc _ ps asg bd=>some (ps,asg,bd)
 |_=>none
def nmRg:Array Tmp×Code×Code:=(fd (iq Qq 131)).getD (#[],.skip,.skip)
def nmAs:Code:=nmRg.2.1
def nmBd:Code:=nmRg.2.2
def ko(P:Program)(g:Nat)(s:LoopState)(p:Option Code)(T:List (Nat×V))(dn:Nat):Blk:=match fd (iq P g)with
 |some (ps,asg,bd)=>.loop s p (szOf P g) (kV .lf T) ps asg bd dn
 |none=>.dead
def nmT:List (Nat×V):=[(2,.ptr 0 0),(3,.ptr 1 0)]
def nmL(s:LoopState)(p:Option Code):Blk:=ko Qq 131 s p nmT 3
def nmM(d:Bool)(s:List UInt8)(l:LoopState)(p:Option Code):St:=[.row [.bool false] 4 1,.row [.bool d] 4 1,.row [.str s] 9 1,.defd,nmL l p]
theorem nm_round(d:Bool)(s:List UInt8)(R:Qz):al Qq N2 9 10 (ah 9) 182 2 [0,1] [.yield 4,.ptr 2 0] (nmM d s .ready none) R=
  (
 bif az s then bif !cG (cutB s)then R .ret [some (V.yield 4),some (.ptr 2 0)] [.row [.bool false] 4 1,.row [.bool d] 4 1,.row [.str s] 9 1,
 Blk.defd,nmL LoopState.done (some Code.ret)]else bif !cutM s then R .ret [some (V.yield 4),some (.ptr 2 0)] [.row [.bool false] 4 1,.row [.bool (cG
 (cutB s)&&cH (cutB s))] 4 1,.row [.str s] 9 1,Blk.defd,nmL LoopState.ready none]else R .normal [some (V.yield 4),some (.ptr 2 0)] [.row [.bool
 false] 4 1,.row [.bool (cG (cutB s)&&cH (cutB s))] 4 1,.row [.str (cutR s)] 9 1,Blk.defd,nmL LoopState.ready none]else False):=by kernel_rfl
theorem iA{s:List UInt8}(h:cutM s=true):(cutR s).length<s.length:=by
 unfold cutM at h;unfold cutR;rcases kH s with⟨_,h3⟩|⟨o,_,h3,h4⟩
 ·rw[h3]at h;cases h
 ·rw[h4,Option.getD_some,List.length_drop];omega
theorem cutR_le(s:List UInt8):(cutR s).length≤s.length:=by
 unfold cutR;rcases kH s with⟨_,h3⟩|⟨o,_,h3,h4⟩
 ·rw[h3];simp
 ·rw[h4,Option.getD_some,List.length_drop];omega
def nmA:Nat→List UInt8→Bool×Bool
 |0,_=>(false,false)
 |k+1,s=>bif cG (cutB s)then(bif cutM s then nmA k (cutR s)else(true,cH (cutB s)))else(false,false)
theorem nmA_fuel:∀(k j:Nat) (s:List UInt8),s.length<k→s.length<j→nmA k s=nmA j s
 |0,_,s,h,_=>by omega
 |_+1,0,s,_,h=>by omega
 |k+1,j+1,s,h1,h2=>by
  rw[nmA,nmA];cases hl:cG (cutB s)with
  |false=>rfl
  |true=>
   cases hm:cutM s with
   |false=>rfl
   |true=>
    have hlt:=iA hm;rw[ae,ae,ae,ae];exact nmA_fuel k j _ (by omega) (by omega)
def nmO(s:List UInt8):Bool:=(nmA (s.length+1) s).1
def nmD(s:List UInt8):Bool:=(nmA (s.length+1) s).2
theorem nm_bad{s:List UInt8}(h:cG (cutB s)=false):nmO s=false:=by unfold nmO;rw[nmA,h];rfl
theorem nm_end{s:List UInt8}(h:cG (cutB s)=true)(hm:cutM s=false):nmO s=true∧nmD s=cH (cutB s):=by unfold nmO nmD;rw[nmA,h,hm];exact⟨rfl,rfl⟩
theorem nm_next{s:List UInt8}(h:cG (cutB s)=true)(hm:cutM s=true):nmO s=nmO (cutR s)∧nmD s=nmD (cutR s):=by
 have hlt:=iA hm;unfold nmO nmD;rw[nmA,h,hm,ae,ae,nmA_fuel s.length ((cutR s).length+1) _ (by omega) (by omega)];exact⟨rfl,rfl⟩
structure NM where
 d:Bool
 s:List UInt8
def nmV(_:NM):List V:=[.yield 4,.ptr 2 0]
def nmJ(x:NM):St:=nmM x.d x.s .ready none
def nmPre(x:NM):Bool:=az x.s
def nmMu(x:NM):Nat:=x.s.length
def nmDec:List (Option V)→St→Option NM
 |[some (.yield 4),some (.ptr 2 0)],(.row [.bool false] _ _)::(.row [.bool d] _ _)::(.row [.str s] _ _)::_=>some ⟨d,s⟩
 |_,_=>none
def tR(o d:Bool)(K:Exit→List V→St→Prop):Prop:=
 bif o then ∀s:List UInt8,K .ret [.yield 4,.ptr 2 0] (nmM d s .ready none)else ∀(e:Bool) (s:List UInt8),K .ret [.yield 4,.ptr 2 0] (nmM e s .done (some .ret))
def nmOut:Asks NM:=fun x K=>tR (nmO x.s) (nmD x.s) K
theorem nmL_fit(σ:List Nat)(h0:σ[0]?=some 0)(h1:σ[1]?=some 1)(h3:σ[3]?=some 3)(s:LoopState)(p:Option Code):FitB σ (nmL s p) (nmL s p):=by
 unfold nmL ko;split
 ·refine .inr ⟨_,_,_,_,_,_,_,_,_,_,rfl,rfl,h3,FitT.of (fun t v hm=>?_)⟩;simp only[nmT,List.mem_cons,Prod.mk.injEq,List.not_mem_nil,or_false]at hm;rcases hm with⟨rfl,rfl⟩|⟨rfl,rfl⟩
  ·exact⟨.ptr 0 0,by simp[renV,h0],rfl⟩
  ·exact⟨.ptr 1 0,by simp[renV,h1],rfl⟩
 ·exact .inl rfl
theorem tQ(d:Bool)(s:List UInt8)(l:LoopState)(p:Option Code):Fits 5 [.yield 4,.ptr 2 0] (nmM d s l p) [some (.yield 4),some (.ptr 2 0)] (nmM d s l p):=
 ⟨[0,1,2,3,4],[.yield 4,.ptr 2 0],rfl,rfl,FitsM.of ⟨.inr ⟨_,.inl rfl,rfl⟩,.inr ⟨_,.inl rfl,rfl⟩,.inr ⟨_,.inl rfl,rfl⟩,.inr ⟨_,.inl rfl,rfl⟩,.inr ⟨_,nmL_fit _ rfl rfl rfl l p,rfl⟩,trivial⟩,by decide,fun i hi=>by
   match i,hi with
   |0,_|1,_|2,_|3,_|4,_=>rfl⟩
theorem nm_roundOk(x:NM)(hx:nmPre x=true):al Qq N2 9 10 (ah 9) 182 2 [0,1] (nmV x) (nmJ x) (aD 5 nmPre nmV nmJ nmMu nmOut x):=by
 obtain⟨d,s⟩:=x;have hx:az s=true:=hx;show al Qq N2 9 10 (ah 9) 182 2 [0,1] [.yield 4,.ptr 2 0] (nmM d s .ready none) _;rw[nm_round,hx,ae];cases hl:cG (cutB s)with
 |false=>
  refine⟨_,_,fun K hK=>?_,tQ d s .done (some .ret)⟩;have hK:tR (nmO s) (nmD s) K:=hK;rw[nm_bad hl]at hK;exact hK d s
 |true=>
  cases hm:cutM s with
  |false=>
   obtain⟨h1,h2⟩:=nm_end hl hm;refine⟨_,_,fun K hK=>?_,tQ _ s .ready none⟩;have hK:tR (nmO s) (nmD s) K:=hK;rw[h1,h2]at hK;exact hK s
  |true=>
   obtain⟨h1,h2⟩:=nm_next hl hm;refine⟨⟨cH (cutB s),cutR s⟩,?_,tQ _ (cutR s) .ready none,iA hm,fun K hK=>?_⟩
   ·exact am (Nat.le_trans (cutR_le s) (aN hx))
   ·have hK:tR (nmO s) (nmD s) K:=hK;rw[h1,h2]at hK;exact hK
def lk55:Nat→Trans→Trans:=ba 2 (bK 5 (szOf Qq 182) [0,1] nmDec nmPre nmV nmJ nmOut) (ah 9)
theorem lk55_ok:aQ Qq 5 lk55 182:=by
 unfold lk55;exact bB (aY 9 5 182) (by kernel_rfl) fun f st Q h=>bc (P:=Qq) (T:=N2) (k:=5) (lim:=9) (n:=10) (g:=182) (p0:=2) (lk:=ah 9) aA N2_ok (bf 9 _ _) nmMu nm_roundOk h
def N3:Tab:=⟨addP (addT (addP noT 178 labP) 123 cutP) 177 tpP,noL,cI (aT 9) 182 5 lk55⟩
theorem N3_ok:TabOk3 Qq N3:=⟨bg (aR (bg aJ lab_ok) qC) tp_ok,aK,bq (au 9) lk55_ok⟩
theorem may_tree(s:List UInt8)(R:V→Prop):runW Qq N3 9 10 131 [.str s] R=
  (
 bif decide ((↑s.length:Int)>253)then R (.bool false)else Fits 5 [V.yield 4,.ptr 2 0] [.row [.bool false] 4 1,.row [.bool false] 4 1,.row [.str s] 9
 1,Blk.defd,nmL LoopState.ready none] [some (V.yield 4),some (.ptr 2 0)] [.row [.bool false] 4 1,.row [.bool false] 4 1,.row [.str s] 9 1,Blk.defd,
 Blk.loop LoopState.ready none 23 ((((Tr.lf.nd (some (.str s)) Tr.lf).nd (some (.ptr 1 0)) (Tr.lf.nd (some (V.func (Fn.func 182) [] [.ptr 2 0])) Tr.lf)).nd none
 ((Tr.lf.nd (some (.bool false)) Tr.lf).nd none Tr.lf)).nd (some (.str s)) (((Tr.lf.nd (some (.int IntKind.i64 (↑s.length:Int))) Tr.lf).nd none Tr.lf).nd (some (.ptr
 0 0)) ((Tr.lf.nd (some (.str s)) Tr.lf).nd none Tr.lf))) {toList:=[12]} nmAs nmBd 3]∧bif nmPre {d:=false,s:=s}then bif nmO s then ∀(s_1:List UInt8),R
 (.bool !nmD s)else ∀(e:Bool) (s:List UInt8),R (.bool false)else False):=by kernel_rfl
def mayN(s:List UInt8):Bool:=decide (s.length≤253)&&(nmO s&&!nmD s)
def mayP:List V→Option V
 |[.str s]=>some (.bool (mayN s))
 |_=>none
theorem nm_enter(s:List UInt8)(T2:Tr)(h2:T2.get 2=some (.ptr 0 0))(h3:T2.get 3=some (.ptr 1 0)):
  Fits 5 [.yield 4,.ptr 2 0] [.row [.bool false] 4 1,.row [.bool false] 4 1,.row [.str s] 9 1,.defd,nmL .ready none] [some (.yield 4),some (.ptr 2 0)]
   [.row [.bool false] 4 1,.row [.bool false] 4 1,.row [.str s] 9 1,.defd,.loop .ready none 23 T2 {toList:=[12]} nmAs nmBd 3]:=by
 have hL:nmL .ready none=.loop .ready none 23 (kV .lf nmT) {toList:=[12]} nmAs nmBd 3:=by kernel_rfl
 refine⟨[0,1,2,3,4],[.yield 4,.ptr 2 0],rfl,rfl,FitsM.of ?_,by decide,fun i hi=>by
  match i,hi with
  |0,_|1,_|2,_|3,_|4,_=>rfl⟩
 refine⟨.inr ⟨_,.inl rfl,rfl⟩,.inr ⟨_,.inl rfl,rfl⟩,.inr ⟨_,.inl rfl,rfl⟩,.inr ⟨_,.inl rfl,rfl⟩,.inr ⟨_,?_,rfl⟩,trivial⟩;rw[hL];refine .inr ⟨_,_,_,_,_,_,_,_,_,_,rfl,rfl,rfl,FitT.of fun t v hm=>?_⟩;simp only[nmT,List.mem_cons,Prod.mk.injEq,List.not_mem_nil,or_false]at hm;rcases hm with⟨rfl,rfl⟩|⟨rfl,rfl⟩
 ·exact⟨_,rfl,h2⟩
 ·exact⟨_,rfl,h3⟩
theorem pU(args:List V)(v:V)(h:mayP args=some v):FnSat Qq 131 args [] (Is (v,[])):=by
 unfold mayP at h;split at h
 ·rename_i s;cases h;refine ax (lim:=9) (n:=10) aA N3_ok rfl rfl ?_;rw[may_tree];unfold mayN;refine ac (fun h=>?_) (fun h=>?_)
  ·have h:=aN h;rw[bH (show ¬s.length≤253 by omega)];rfl
  ·have h:=bk h;rw[am (show s.length≤253 by omega),aH];refine⟨nm_enter s _ rfl rfl,aa (am (show s.length≤1099511627776 by omega)) ?_⟩;refine ac (fun h=>?_) (fun h=>?_)
   ·intro _;rw[h];rfl
   ·intro _ _;rw[h];rfl
 ·cases h
def N4:Tab:=⟨addP (addP noT 177 tpP) 131 mayP,noL,aT 9⟩
theorem N4_ok:TabOk3 Qq N4:=⟨bg (bg aJ tp_ok) pU,aK,au 9⟩
def patN(s:List UInt8):Bool:=mayN (cV s)
def patP:List V→Option V
 |[.str s]=>some (.bool (patN s))
 |_=>none
theorem pat_tree(s:List UInt8)(R:V→Prop):runW Qq N4 9 10 130 [.str s] R=
  (
 R (.bool (mayN (cV s)))):=by kernel_rfl
theorem pat_ok(args:List V)(v:V)(h:patP args=some v):FnSat Qq 130 args [] (Is (v,[])):=by
 unfold patP at h;split at h
 ·rename_i s;cases h;refine ax (lim:=9) (n:=10) aA N4_ok rfl rfl ?_;rw[pat_tree];rfl
 ·cases h
def npatP:List V→Option V
 |[.str s]=>some (.bool !patN s)
 |_=>none
def C0:Tab:=⟨addP (addT (addP noT 130 patP) 179 putF) 150 npatP,noL,aT 9⟩
theorem np_tree(s:List UInt8)(R:V→Prop):runW Qq ⟨addP noT 130 patP,noL,aT 9⟩ 9 10 150 [.str s] R=
  (
 R (.bool !patN s)):=by kernel_rfl
theorem np_ok(args:List V)(v:V)(h:npatP args=some v):FnSat Qq 150 args [] (Is (v,[])):=by
 unfold npatP at h;split at h
 ·rename_i s;cases h;refine ax (T:=⟨addP noT 130 patP,noL,aT 9⟩) (lim:=9) (n:=10) aA ⟨bg aJ pat_ok,aK,au 9⟩ rfl rfl ?_;rw[np_tree]
 ·cases h
theorem C0_ok:TabOk3 Qq C0:=⟨bg (aR (bg aJ pat_ok) put_ok) np_ok,aK,au 9⟩
theorem ix_round(x:Value)(n:Nat)(cs:List V)(i:Int)(R:Qz):al Qq C0 9 10 (ah 9) 129 26 [0,1,4,7,8] [.lst x n cs,.func (.func 150) [] [],.int .i64 0,.int .i64 n,.int .i64 i] [] R=
  (
 bif decide (i<(↑n:Int))then bif decide (0≤i)&&decide (i<(↑n:Int))then bif (i.toNat*1).blt cs.length then bif ar (cs.getD (i.toNat*1) (.bool false))
 then bif !patN (ab (cs.getD (i.toNat*1) (.bool false)))then R .ret [some (.lst x n cs),some (V.func (Fn.func 150) [] []),some (.int i64 i),some
 (.int i64 (↑n:Int)),some (.int i64 i)] []else R .normal [some (.lst x n cs),some (V.func (Fn.func 150) [] []),some (.int i64 0),
 some (.int i64 (↑n:Int)),some (.int i64 (i64.wrap (i+1)))] []else False else False else False else R (.exit 0) [some (.lst x n cs),
 some (V.func (Fn.func 150) [] []),some (.int i64 0),some (.int i64 (↑n:Int)),some (.int i64 i)] []):=by kernel_rfl
theorem th_round(t:Int)(x:Value)(n:Nat)(cs:List V)(o:List UInt8)(i:Int)(R:Qz):al Qq C0 9 10 (ah 9) 133 58 [0,5,10,11,12] [.int .u8 t,.str o,.lst x n cs,.int .i64 n,.int .i64 i] [] R=
  (
 bif decide (i<(↑n:Int))then bif decide (0≤i)&&decide (i<(↑n:Int))then bif (i.toNat*1).blt cs.length then bif ar (cs.getD (i.toNat*1) (.bool false))
 then bif (o.length+(ab (cs.getD (i.toNat*1) (.bool false))).length).ble 9223372036854775807 then R .normal [some (.int u8 t),some (.str (o++
 ab (cs.getD (i.toNat*1) (.bool false)))),some (.lst x n cs),some (.int i64 (↑n:Int)),some (.int i64 (i64.wrap (i+1)))] []else
 False else False else False else False else R (.exit 0) [some (.int u8 t),some (.str o),some (.lst x n cs),some (.int i64 (↑n:Int)),some
 (.int i64 i)] []):=by kernel_rfl
structure IX where
 x:Value
 n:Nat
 cs:List V
 i:Nat
def ixV(x:IX):List V:=[.lst x.x x.n x.cs,.func (.func 150) [] [],.int .i64 0,.int .i64 x.n,.int .i64 x.i]
def ixJ(_:IX):St:=[]
def qi(x:IX):Bool:=okS x.n x.cs&&Nat.ble x.i x.n
def ixMu(x:IX):Nat:=x.n-x.i
def ixDec:List (Option V)→St→Option IX
 |[some (.lst x n cs),some (.func (.func 150) [] []),some (.int .i64 0),some (.int .i64 _),some (.int .i64 0)],_=>some ⟨x,n,cs,0⟩
 |_,_=>none
def allP(cs:List V):Bool:=(cs.map ab).all patN
def ud(x:Value)(n:Nat)(cs:List V)(b:Bool)(K:Exit→List V→St→Prop):Prop:=
 bif b then K (.exit 0) [.lst x n cs,.func (.func 150) [] [],.int .i64 0,.int .i64 n,.int .i64 n] []else ∀i:Nat,K .ret [.lst x n cs,.func (.func 150) [] [],.int .i64 i,.int .i64 n,.int .i64 i] []
def ixOut:Asks IX:=fun x K=>ud x.x x.n x.cs (allP (x.cs.drop x.i)) K
theorem ix_roundOk(x:IX)(hx:qi x=true):al Qq C0 9 10 (ah 9) 129 26 [0,1,4,7,8] (ixV x) (ixJ x) (aD 0 qi ixV ixJ ixMu ixOut x):=by
 obtain⟨x,n,cs,i⟩:=x;unfold qi at hx;rw[ad]at hx;have p1:i≤n:=aw hx.2;have hx1:okS n cs=true:=hx.1;obtain⟨l,rfl,rfl,p2,p3⟩:=cn hx1;show al Qq C0 9 10 (ah 9) 129 26 [0,1,4,7,8] [.lst x l.length (strs l),.func (.func 150) [] [],.int .i64 0,.int .i64 l.length,.int .i64 i] [] _;rw[ix_round];have ha:∀j,allP ((strs l).drop j)=(l.drop j).all patN:=fun j=>by
  unfold allP;rw[List.map_drop,ai]
 have out:∀K,ixOut ⟨x,l.length,strs l,i⟩ K→ud x l.length (strs l) ((l.drop i).all patN) K:=fun K hK=>by
  have hK:ud x l.length (strs l) (allP ((strs l).drop i)) K:=hK;rw[ha]at hK;exact hK
 cases hd:l.drop i with
 |nil=>
  have hi:=bY hd p1;rw[bH (show ¬((i:Int)<(l.length:Int)) by omega),ak];refine⟨[.lst x l.length (strs l),.func (.func 150) [] [],.int .i64 0,.int .i64 l.length,.int .i64 i],[],fun K hK=>?_,aV _ rfl _ rfl _⟩;have hK:=out K hK;rw[hd]at hK;rw[hi];exact hK
 |cons c r=>
  obtain⟨e1,e2,e3⟩:=bn hd;obtain⟨e4,e5⟩:=fY hd;have q1:decide ((i:Int)<(l.length:Int))=true:=am (by omega);have q2:decide ((0:Int)≤(i:Int))=true:=am (by omega);rw[q1,q2];simp only[bp,e4,e5,ar,ab,ae,Bool.and_true,show i64.wrap ((i:Int)+1)=((i+1:Nat):Int) by rw[IntWalk.i64_in _ ⟨by omega,by omega⟩];omega];cases hc:patN c with
  |false=>
   refine⟨[.lst x l.length (strs l),.func (.func 150) [] [],.int .i64 i,.int .i64 l.length,.int .i64 i],[],fun K hK=>?_,aV _ rfl _ rfl _⟩;have hK:=out K hK;rw[hd,List.all_cons,hc]at hK;exact hK i
  |true=>
   refine⟨⟨x,l.length,strs l,i+1⟩,?_,aV _ rfl _ rfl _,by simp only[ixMu];omega,fun K hK=>?_⟩
   ·unfold qi;rw[ad];exact⟨hx1,ag (show i+1≤l.length by omega)⟩
   ·have hK:=out K hK;show ud x l.length (strs l) (allP ((strs l).drop (i+1))) K;rw[ha,e2];rw[hd,List.all_cons,hc,aH]at hK;exact hK
def lk49:Nat→Trans→Trans:=ba 26 (bK 0 (szOf Qq 129) [0,1,4,7,8] ixDec qi ixV ixJ ixOut) (ah 9)
theorem lk49_ok:aQ Qq 0 lk49 129:=by
 unfold lk49;exact bB (aY 9 0 129) (by kernel_rfl) fun f st Q h=>bc (P:=Qq) (T:=C0) (k:=0) (lim:=9) (n:=10) (g:=129) (p0:=26) (lk:=ah 9) aA C0_ok (bf 9 _ _) ixMu ix_roundOk h
def C1:Tab:=⟨noT,noL,cI (aT 9) 129 0 lk49⟩
theorem C1_ok:TabOk3 Qq C1:=⟨aJ,aK,bq (au 9) lk49_ok⟩
theorem cf_tree(x:Value)(n:Nat)(cs:List V)(R:V→Prop):runW Qq C1 9 10 71 [.lst x n cs,.func (.func 150) [] []] R=
  (
 Fits 0 [.lst x n cs,V.func (Fn.func 150) [] [],.int i64 0,.int i64 (↑n:Int),.int i64 0] [] [some (.lst x n cs),some (V.func (Fn.func
 150) [] []),some (.int i64 0),some (.int i64 (↑n:Int)),some (.int i64 0)] []∧bif qi {x:=x,n:=n,cs:=cs,i:=0}then bif
 allP cs then R (.bool false)else ∀(i:Nat),R (.bool true)else False):=by kernel_rfl
def cfP:List V→Option (Qx)
 |[.lst _ n cs,.func (.func 150) [] []]=>some [(okS n cs,(.bool (!allP cs),[]))]
 |_=>none
theorem cf_ok(args:List V)(l:Qx)(o:V×St)(h:cfP args=some l)(ho:aL l=some o):FnSat Qq 71 args [] (Is o):=by
 unfold cfP at h;split at h
 ·rename_i x n cs;cases h;cases hk:okS n cs with
  |false=>rw[hk]at ho;cases ho
  |true=>
   rw[hk]at ho;cases ho;refine ax (lim:=9) (n:=10) aA C1_ok rfl rfl ?_;rw[cf_tree];refine⟨aV _ rfl _ rfl _,aa (by unfold qi;rw[hk];rfl) ?_⟩;refine ac (fun h=>?_) (fun h=>?_)
   ·rw[h];rfl
   ·intro i;rw[h];rfl
 ·cases h
structure TH where
 t:Int
 o:List UInt8
 x:Value
 n:Nat
 cs:List V
 i:Nat
def thV(x:TH):List V:=[.int .u8 x.t,.str x.o,.lst x.x x.n x.cs,.int .i64 x.n,.int .i64 x.i]
def thJ(_:TH):St:=[]
def catS(cs:List V):List UInt8:=(cs.map ab).flatten
def pf(x:TH):Bool:=okS x.n x.cs&&(Nat.ble x.i x.n&&Nat.ble (x.o.length+(catS (x.cs.drop x.i)).length) 1099511627776)
def thMu(x:TH):Nat:=x.n-x.i
def thDec:List (Option V)→St→Option TH
 |[some (.int .u8 t),some (.str o),some (.lst x n cs),some (.int .i64 _),some (.int .i64 0)],_=>some ⟨t,o,x,n,cs,0⟩
 |_,_=>none
def s7(t:Int)(o:List UInt8)(x:Value)(n:Nat)(cs:List V)(K:Exit→List V→St→Prop):Prop:=
 K (.exit 0) [.int .u8 t,.str o,.lst x n cs,.int .i64 n,.int .i64 n] []
def thOut:Asks TH:=fun x K=>s7 x.t (x.o++catS (x.cs.drop x.i)) x.x x.n x.cs K
theorem th_roundOk(x:TH)(hx:pf x=true):al Qq C0 9 10 (ah 9) 133 58 [0,5,10,11,12] (thV x) (thJ x) (aD 0 pf thV thJ thMu thOut x):=by
 obtain⟨t,o,x,n,cs,i⟩:=x;unfold pf at hx;simp only[ad]at hx;have p1:i≤n:=aw hx.2.1;have p4:o.length+(catS (cs.drop i)).length≤1099511627776:=aw hx.2.2;have hx1:okS n cs=true:=hx.1;obtain⟨l,rfl,rfl,p2,p3⟩:=cn hx1;show al Qq C0 9 10 (ah 9) 133 58 [0,5,10,11,12] [.int .u8 t,.str o,.lst x l.length (strs l),.int .i64 l.length,.int .i64 i] [] _;rw[th_round];have ha:∀j,catS ((strs l).drop j)=(l.drop j).flatten:=fun j=>by
  unfold catS;rw[List.map_drop,ai]
 rw[ha]at p4;have out:∀K,thOut ⟨t,o,x,l.length,strs l,i⟩ K→s7 t (o++(l.drop i).flatten) x l.length (strs l) K:=fun K hK=>by
  have hK:s7 t (o++catS ((strs l).drop i)) x l.length (strs l) K:=hK;rw[ha]at hK;exact hK
 cases hd:l.drop i with
 |nil=>
  have hi:=bY hd p1;rw[bH (show ¬((i:Int)<(l.length:Int)) by omega),ak];refine⟨[.int .u8 t,.str o,.lst x l.length (strs l),.int .i64 l.length,.int .i64 i],[],fun K hK=>?_,aV _ rfl _ rfl _⟩;have hK:=out K hK;rw[hd,List.flatten_nil,List.append_nil]at hK;rw[hi];exact hK
 |cons c r=>
  obtain⟨e1,e2,e3⟩:=bn hd;obtain⟨e4,e5⟩:=fY hd;rw[hd,List.flatten_cons,bQ]at p4;have q1:decide ((i:Int)<(l.length:Int))=true:=am (by omega);have q2:decide ((0:Int)≤(i:Int))=true:=am (by omega);have q3:(o.length+c.length).ble 9223372036854775807=true:=ag (by omega);rw[q1,q2];simp only[bp,e4,e5,ar,ab,q3,ae,Bool.and_true,show i64.wrap ((i:Int)+1)=((i+1:Nat):Int) by rw[IntWalk.i64_in _ ⟨by omega,by omega⟩];omega];refine⟨⟨t,o++c,x,l.length,strs l,i+1⟩,?_,aV _ rfl _ rfl _,by simp only[thMu];omega,fun K hK=>?_⟩
  ·unfold pf;simp only[ad];refine⟨hx1,ag (show i+1≤l.length by omega),ag ?_⟩;simp only[ha,e2,bQ];omega
  ·have hK:=out K hK;show s7 t ((o++c)++catS ((strs l).drop (i+1))) x l.length (strs l) K;rw[ha,e2];rw[hd,List.flatten_cons,←List.append_assoc]at hK;exact hK
def lk41:Nat→Trans→Trans:=ba 58 (bK 0 (szOf Qq 133) [0,5,10,11,12] thDec pf thV thJ thOut) (ah 9)
theorem lk41_ok:aQ Qq 0 lk41 133:=by
 unfold lk41;exact bB (aY 9 0 133) (by kernel_rfl) fun f st Q h=>bc (P:=Qq) (T:=C0) (k:=0) (lim:=9) (n:=10) (g:=133) (p0:=58) (lk:=ah 9) aA C0_ok (bf 9 _ _) thMu th_roundOk h
def C2:Tab:=⟨addT noT 179 putF,noL,cI (aT 9) 133 0 lk41⟩
theorem C2_ok:TabOk3 Qq C2:=⟨aR aJ put_ok,aK,bq (au 9) lk41_ok⟩
theorem th_tree(t:Int)(x:Value)(n:Nat)(cs:List V)(R:V→Prop):runW Qq C2 9 10 133 [.int .u8 t,.lst x n cs] R=
  (
 Fits 0 [.int u8 t,.str [],.lst x n cs,.int i64 (↑n:Int),.int i64 0] [] [some (.int u8 t),some (.str []),some (.lst x n
 cs),some (.int i64 (↑n:Int)),some (.int i64 0)] []∧bif pf {t:=t,o:=[],x:=x,n:=n,cs:=cs,i:=0}then bif fK t then R (.str
 (putB t ([]++catS cs)))else False else False):=by kernel_rfl
theorem th_sat(t:Int)(x:Value)(l:List (List UInt8))(ht:fK t=true)(hl:l.length≤9223372036854775807)(hf:l.flatten.length≤1099511627776):FnSat Qq 133 [.int .u8 t,lstS x l] [] (Is (.str (putB t l.flatten),[])):=by
 have hk:=dH hl;have hc:catS (strs l)=l.flatten:=by unfold catS;rw[ai]
 refine ax (lim:=9) (n:=10) aA C2_ok rfl rfl ?_;unfold lstS;rw[th_tree];refine⟨aV _ rfl _ rfl _,aa ?_ ?_⟩
 ·unfold pf;simp only[hk,List.drop_zero,hc,List.length_nil,Nat.zero_add,aH,ad];exact⟨ag (Nat.zero_le _),ag hf⟩
 ·rw[ht,ae,hc];rfl
def thG:List V→St→Option (Qx)
 |[.int .u8 t,p],st=>match bC st p with
  |some (b,l)=>some [(b&&(fK t&&(Nat.ble l.length 9223372036854775807&&Nat.ble l.flatten.length 1099511627776)),(.str (putB t l.flatten),st))]
  |none=>none
 |_,_=>none
theorem thG_ok(args:List V)(s:St)(l:Qx)(o:V×St)(h:thG args s=some l)(ho:aL l=some o):FnSat Qq 133 args s (Is o):=by
 unfold thG at h;split at h
 ·rename_i t p;split at h
  ·rename_i b ls hv;cases h;obtain⟨hb,rfl⟩:=aO ho;simp only[ad]at hb;obtain⟨rfl,h1,h2,h3⟩:=hb;refine cx rfl fun B W0 w m rargs hr ha=>?_;obtain⟨a,r,q1,q2,rfl⟩:=aj ha;obtain⟨c,r',q3,q4,rfl⟩:=aj q2;simp only[ap,af]at q4;subst q4;have:=cB hr hv q3;refine⟨[.int .u8 t,lstS c ls],?_,@th_sat (Frz.of w) t c ls h1 (aw h2) (aw h3)⟩;simp only[ap,this];rw[bJ (Ψ:=Frz.of w) (m':=[]) (.int .u8 t) a rfl q1]
  ·cases h
 ·cases h
def beL:Nat→Int→List UInt8
 |0,_=>[]
 |k+1,n=>Vm.byteOf (V.int .u8 (u8.wrap (n.fdiv ((256^k:Nat):Int))))::beL k n
def decF(a:Int):List UInt8→Int
 |[]=>a
 |b::r=>decF (a*256+b.toNat) r
def sgnB(b:UInt8):Int:=if b.toNat≥128 then(b.toNat:Int)-256 else b.toNat
def dec:List UInt8→Int
 |[]=>0
 |b::r=>decF (sgnB b) r
theorem eI(m:Nat):(0:Int)<((256^m:Nat):Int):=by
 have:=Nat.pow_pos (n:=m) (show 0<256 by omega);omega
theorem oa(m:Nat):((256^(m+1):Nat):Int)=256*((256^m:Nat):Int):=by
 rw[Nat.pow_succ,Nat.mul_comm];simp
theorem im(n:Int)(k:Nat):((Vm.byteOf (V.int .u8 (u8.wrap (n.fdiv ((256^k:Nat):Int))))).toNat:Int)=(n/((256^k:Nat):Int))%256:=by
 rw[Int.fdiv_eq_ediv_of_nonneg _ (Int.le_of_lt (eI k))];generalize n/((256^k:Nat):Int)=q;have h1:0≤q%256:=Int.emod_nonneg _ (by omega);have h2:q%256<256:=Int.emod_lt_of_pos _ (by omega);have e:u8.wrap q=q%256:=by rw[IntKind.wrap_u8]
 show((UInt8.ofNat (u8.wrap q).toNat).toNat:Int)=_;rw[e,UInt8.toNat_ofNat',Nat.mod_eq_of_lt (by omega)];omega
theorem emod_step(n c:Int)(hc:0<c):n%(256*c)=((n/c)%256)*c+n%c:=by
 have h1:=Int.emod_add_mul_ediv n c;have h2:=Int.emod_add_mul_ediv (n/c) 256;have b1:=Int.emod_nonneg n (show c≠0 by omega);have b2:=Int.emod_lt_of_pos n hc;have b3:=Int.emod_nonneg (n/c) (show(256:Int)≠0 by omega);have b4:=Int.emod_lt_of_pos (n/c) (show(0:Int)<256 by omega);generalize hr:(n/c)%256=r at*
 generalize hs:n%c=s at*
 generalize hq:n/c/256=q at*
 have e:n=(r*c+s)+(256*c)*q:=by
  rw[←h1,←h2,Int.mul_add];have:c*(256*q)=256*c*q:=by rw[←Int.mul_assoc,Int.mul_comm c 256]
  rw[this,Int.mul_comm c r];omega
 have b5:r*c≤255*c:=Int.mul_le_mul_of_nonneg_right (by omega) (by omega);have b6:0≤r*c:=Int.mul_nonneg b3 (by omega);rw[e,Int.add_mul_emod_self_left];exact Int.emod_eq_of_lt (by omega) (by omega)
theorem decF_be(n:Int):∀(m:Nat) (a:Int),decF a (beL m n)=a*((256^m:Nat):Int)+n%((256^m:Nat):Int)
 |0,a=>by simp[beL,decF,Int.emod_one]
 |m+1,a=>by
  simp only[beL,decF];rw[decF_be n m,im,oa,emod_step n _ (eI m),Int.add_mul,Int.mul_assoc,Int.add_assoc]
theorem dec_be{n:Int}{m:Nat}(h1:-(128*((256^m:Nat):Int))≤n)(h2:n<128*((256^m:Nat):Int)):dec (beL (m+1) n)=n:=by
 have hp:=eI m;have hb:=im n m;simp only[beL,dec];have q1:n/((256^m:Nat):Int)<128:=Int.ediv_lt_of_lt_mul hp h2;have q2:-128≤n/((256^m:Nat):Int):=Int.le_ediv_of_mul_le hp (by rw[Int.neg_mul];exact h1);have e:sgnB (Vm.byteOf (V.int .u8 (u8.wrap (n.fdiv ((256^m:Nat):Int)))))=n/((256^m:Nat):Int):=by
  unfold sgnB;split<;>omega
 rw[e,decF_be];have:=Int.emod_add_mul_ediv n ((256^m:Nat):Int);rw[Int.mul_comm];omega
theorem o4(n:Int):∀m,(beL m n).length=m
 |0=>rfl
 |m+1=>by simp[beL,o4 n m]
theorem gi:∀(l:List UInt8) (a:Int),a*((256^l.length:Nat):Int)≤decF a l∧decF a l+1≤(a+1)*((256^l.length:Nat):Int)
 |[],a=>by simp[decF]
 |b::r,a=>by
  have hb:=b.toNat_lt;have ih:=gi r (a*256+b.toNat);have hp:=eI r.length;simp only[decF,bi,oa];generalize ((256^r.length:Nat):Int)=c at*
  have e1:a*(256*c)≤(a*256+b.toNat)*c:=by
   rw[←Int.mul_assoc];exact Int.mul_le_mul_of_nonneg_right (by omega) (by omega)
  have e2:(a*256+b.toNat+1)*c≤(a+1)*(256*c):=by
   rw[←Int.mul_assoc];exact Int.mul_le_mul_of_nonneg_right (by omega) (by omega)
  omega
theorem lU(b:UInt8)(r:List UInt8):-(128*((256^r.length:Nat):Int))≤dec (b::r)∧dec (b::r)<128*((256^r.length:Nat):Int):=by
 have hb:=b.toNat_lt;have h:=gi r (sgnB b);have hp:=eI r.length;have s1:-128≤sgnB b∧sgnB b≤127:=by unfold sgnB;split<;>omega
 simp only[dec];generalize ((256^r.length:Nat):Int)=c at*
 have e1:-128*c≤sgnB b*c:=Int.mul_le_mul_of_nonneg_right s1.1 (by omega);have e2:(sgnB b+1)*c≤128*c:=Int.mul_le_mul_of_nonneg_right (by omega) (by omega);omega
theorem j3:∀(l:List UInt8) (a:Int) (b:UInt8),decF a (l++[b])=decF a l*256+b.toNat
 |[],a,b=>rfl
 |c::r,a,b=>by simp only[List.cons_append,decF];exact j3 r _ b
theorem dec_take{s:List UInt8}{i:Nat}(h0:1≤i)(h1:i<s.length):dec (s.take (i+1))=dec (s.take i)*256+(s.getD i 0).toNat:=by
 cases s with
 |nil=>simp at h1
 |cons b r=>
  obtain⟨j,rfl⟩:∃j,i=j+1:=⟨i-1,by omega⟩;simp only[bi]at h1;simp only[List.take_succ_cons,dec,List.getD_cons_succ];rw[List.take_add_one,List.getElem?_eq_getElem (by omega),Option.toList_some,j3,bX,List.getElem?_eq_getElem (by omega),Option.getD_some]
theorem be_decF:∀(l:List UInt8) (a:Int),beL l.length (decF a l)=l
 |[],a=>rfl
 |b::r,a=>by
  have hb:=b.toNat_lt;have h:=gi r (a*256+b.toNat);have hp:=eI r.length;simp only[bi,beL,decF];rw[be_decF r];congr 1;apply UInt8.toNat_inj.1;have hq:=im (decF (a*256+b.toNat) r) r.length;have q1:decF (a*256+b.toNat) r/((256^r.length:Nat):Int)=a*256+b.toNat:=by
   have l1:decF (a*256+b.toNat) r/((256^r.length:Nat):Int)<a*256+b.toNat+1:=Int.ediv_lt_of_lt_mul hp (by omega);have l2:a*256+b.toNat≤decF (a*256+b.toNat) r/((256^r.length:Nat):Int):=Int.le_ediv_of_mul_le hp (by omega);omega
  rw[q1]at hq;omega
theorem be_dec:∀(s:List UInt8),s≠[]→beL s.length (dec s)=s
 |[],h=>absurd rfl h
 |b::r,_=>by
  have hb:=b.toNat_lt;have h:=gi r (sgnB b);have hp:=eI r.length;simp only[bi,beL,dec];rw[be_decF r];congr 1;apply UInt8.toNat_inj.1;have hq:=im (decF (sgnB b) r) r.length;have q1:decF (sgnB b) r/((256^r.length:Nat):Int)=sgnB b:=by
   have l1:decF (sgnB b) r/((256^r.length:Nat):Int)<sgnB b+1:=Int.ediv_lt_of_lt_mul hp (by omega);have l2:sgnB b≤decF (sgnB b) r/((256^r.length:Nat):Int):=Int.le_ediv_of_mul_le hp (by omega);omega
  rw[q1]at hq;have hs:sgnB b%256=b.toNat:=by unfold sgnB;split<;>omega
  omega
theorem or_byte(n:Int)(b:Nat)(h1:-36028797018963968≤n)(h2:n<36028797018963968)(hb:b<256):
  i64.wrap (((BitVec.ofInt 64 (n*256)|||BitVec.ofInt 64 (b:Int)).toNat:Nat):Int)=n*256+b:=by
 have e:BitVec.ofInt 64 (n*256)=BitVec.ofInt 64 (((n%72057594037927936).toNat:Int)*256):=by
  apply BitVec.eq_of_toNat_eq;rw[BitVec.toNat_ofInt,BitVec.toNat_ofInt];congr 1;have:(2:Int)^64=18446744073709551616:=by decide
  simp only[Nat.reducePow];omega
 rw[e,qK _ _ (by omega) hb,IntKind.wrap_i64];omega
def DT9:Tab:=⟨noT,noL,aT 9⟩
theorem DT9_ok:TabOk3 Qq DT9:=⟨aJ,aK,au 9⟩
theorem int_r1(n:Int)(R:Qz):al Qq DT9 9 10 (ah 9) 134 28 [0,2,3] [.int .i64 n,.str [],.int .i64 1] [] R=
  (
 bif decide (n< -128)then R .normal [some (.int i64 n),some (.str []),some (.int i64 2)] []else bif decide (n>127)then R .normal [some
 (.int i64 n),some (.str []),some (.int i64 2)] []else R (.exit 0) [some (.int i64 n),some (.str []),some (.int i64 1)] []):=by kernel_rfl
theorem int_r2(n:Int)(R:Qz):al Qq DT9 9 10 (ah 9) 134 28 [0,2,3] [.int .i64 n,.str [],.int .i64 2] [] R=
  (
 bif decide (n< -32768)then R .normal [some (.int i64 n),some (.str []),some (.int i64 3)] []else bif decide (n>32767)then R .normal
 [some (.int i64 n),some (.str []),some (.int i64 3)] []else R (.exit 0) [some (.int i64 n),some (.str []),some (.int i64
 2)] []):=by kernel_rfl
theorem int_r3(n:Int)(R:Qz):al Qq DT9 9 10 (ah 9) 134 28 [0,2,3] [.int .i64 n,.str [],.int .i64 3] [] R=
  (
 bif decide (n< -8388608)then R .normal [some (.int i64 n),some (.str []),some (.int i64 4)] []else bif decide (n>8388607)then R .normal
 [some (.int i64 n),some (.str []),some (.int i64 4)] []else R (.exit 0) [some (.int i64 n),some (.str []),some (.int i64
 3)] []):=by kernel_rfl
theorem int_r4(n:Int)(R:Qz):al Qq DT9 9 10 (ah 9) 134 28 [0,2,3] [.int .i64 n,.str [],.int .i64 4] [] R=
  (
 bif decide (n< -2147483648)then R .normal [some (.int i64 n),some (.str []),some (.int i64 5)] []else bif decide (n>2147483647)then R
 .normal [some (.int i64 n),some (.str []),some (.int i64 5)] []else R (.exit 0) [some (.int i64 n),some (.str []),some (.int
 i64 4)] []):=by kernel_rfl
theorem int_r5(n:Int)(R:Qz):al Qq DT9 9 10 (ah 9) 134 28 [0,2,3] [.int .i64 n,.str [],.int .i64 5] [] R=
  (
 bif decide (n< -549755813888)then R .normal [some (.int i64 n),some (.str []),some (.int i64 6)] []else bif decide (n>549755813887)then R
 .normal [some (.int i64 n),some (.str []),some (.int i64 6)] []else R (.exit 0) [some (.int i64 n),some (.str []),some (.int
 i64 5)] []):=by kernel_rfl
theorem int_r6(n:Int)(R:Qz):al Qq DT9 9 10 (ah 9) 134 28 [0,2,3] [.int .i64 n,.str [],.int .i64 6] [] R=
  (
 bif decide (n< -140737488355328)then R .normal [some (.int i64 n),some (.str []),some (.int i64 7)] []else bif decide (n>140737488355327)
 then R .normal [some (.int i64 n),some (.str []),some (.int i64 7)] []else R (.exit 0) [some (.int i64 n),some (.str []),some
 (.int i64 6)] []):=by kernel_rfl
theorem int_r7(n:Int)(R:Qz):al Qq DT9 9 10 (ah 9) 134 28 [0,2,3] [.int .i64 n,.str [],.int .i64 7] [] R=
  (
 bif decide (n< -36028797018963968)then R .normal [some (.int i64 n),some (.str []),some (.int i64 8)] []else bif decide (n>
 36028797018963967)then R .normal [some (.int i64 n),some (.str []),some (.int i64 8)] []else R (.exit 0) [some (.int i64 n),some
 (.str []),some (.int i64 7)] []):=by kernel_rfl
theorem int_r8(n:Int)(R:Qz):al Qq DT9 9 10 (ah 9) 134 28 [0,2,3] [.int .i64 n,.str [],.int .i64 8] [] R=
  (
 R (.exit 0) [some (.int i64 n),some (.str []),some (.int i64 8)] []):=by kernel_rfl
def bO(n:Int):Int:=if-128≤n∧n≤127 then 1 else if-32768≤n∧n≤32767 then 2 else if-8388608≤n∧n≤8388607 then 3 else if-2147483648≤n∧n≤2147483647 then 4 else if-549755813888≤n∧n≤549755813887 then 5 else if-140737488355328≤n∧n≤140737488355327 then 6 else if-36028797018963968≤n∧n≤36028797018963967 then 7 else 8
structure IS where
 n:Int
 m:Int
def isV(x:IS):List V:=[.int .i64 x.n,.str [],.int .i64 x.m]
def isJ(x:IS):St:=[]
def ld(x:IS):Bool:=decide (1≤x.m)&&decide (x.m≤bO x.n)
def isMu(x:IS):Nat:=(8-x.m).toNat
def isDec:List (Option V)→St→Option IS
 |[some (.int .i64 n),some (.str []),some (.int .i64 m)],[]=>some ⟨n,m⟩
 |_,_=>none
def isOutN(n:Int)(K:Exit→List V→St→Prop):Prop:=(bO n=1→K (.exit 0) [.int .i64 n,.str [],.int .i64 1] [])∧(bO n=2→K (.exit 0) [.int .i64 n,.str [],.int .i64 2] [])∧(bO n=3→K (.exit 0) [.int .i64 n,.str [],.int .i64 3] [])∧(bO n=4→K (.exit 0) [.int .i64 n,.str [],.int .i64 4] [])∧(bO n=5→K (.exit 0) [.int .i64 n,.str [],.int .i64 5] [])∧(bO n=6→K (.exit 0) [.int .i64 n,.str [],.int .i64 6] [])∧(bO n=7→K (.exit 0) [.int .i64 n,.str [],.int .i64 7] [])∧(bO n=8→K (.exit 0) [.int .i64 n,.str [],.int .i64 8] [])
def isOut:Asks IS:=fun x K=>isOutN x.n K
theorem ue(x:IS):Fits 0 (isV x) [] ((isV x).map some) []:=⟨[],isV x,rfl,rfl,FitsM.of trivial,by simp,fun i hi=>by omega⟩
theorem sd(n:Int):bO n≤1↔(-128≤n∧n≤127):=by
 unfold bO
 repeat' split
 all_goals omega
theorem sb(n:Int):bO n≤2↔(-32768≤n∧n≤32767):=by
 unfold bO
 repeat' split
 all_goals omega
theorem r9(n:Int):bO n≤3↔(-8388608≤n∧n≤8388607):=by
 unfold bO
 repeat' split
 all_goals omega
theorem r8(n:Int):bO n≤4↔(-2147483648≤n∧n≤2147483647):=by
 unfold bO
 repeat' split
 all_goals omega
theorem r7(n:Int):bO n≤5↔(-549755813888≤n∧n≤549755813887):=by
 unfold bO
 repeat' split
 all_goals omega
theorem rZ(n:Int):bO n≤6↔(-140737488355328≤n∧n≤140737488355327):=by
 unfold bO
 repeat' split
 all_goals omega
theorem rY(n:Int):bO n≤7↔(-36028797018963968≤n∧n≤36028797018963967):=by
 unfold bO
 repeat' split
 all_goals omega
theorem fN(n:Int):bO n≤8∧1≤bO n:=by
 unfold bO
 repeat' split
 all_goals omega
theorem hZ{n m lo hi:Int}(hiff:bO n≤m↔(lo≤n∧n≤hi))(p2:m≤bO n){A B:Prop}(hA:m+1≤bO n→A)(hB:bO n=m→B):(bif decide (n<lo)then A else bif decide (n>hi)then A else B):=by
 refine ac (fun h=>hA ?_) (fun h=>ac (fun h2=>hA ?_) (fun h2=>hB ?_))
 ·have h:=aN h;omega
 ·have h2:=aN h2;omega
 ·have h:=bk h;have h2:=bk h2;omega
theorem int_round(x:IS)(hx:ld x=true):al Qq DT9 9 10 (ah 9) 134 28 [0,2,3] (isV x) (isJ x) (aD 0 ld isV isJ isMu isOut x):=by
 obtain⟨n,m⟩:=x;simp only[ld,ad,decide_eq_true_eq]at hx;obtain⟨p1,p2⟩:=hx;have hmx:=fN n;have hm:m≤8:=by omega
 have stop:bO n=m→aD 0 ld isV isJ isMu isOut ⟨n,m⟩ (.exit 0) ((isV ⟨n,m⟩).map some) []:=by
  intro h;refine⟨isV ⟨n,m⟩,[],fun K hK=>?_,ue _⟩;obtain⟨k1,k2,k3,k4,k5,k6,k7,k8⟩:isOutN n K:=hK;obtain rfl|rfl|rfl|rfl|rfl|rfl|rfl|rfl:m=1∨m=2∨m=3∨m=4∨m=5∨m=6∨m=7∨m=8:=by omega
  ·exact k1 h
  ·exact k2 h
  ·exact k3 h
  ·exact k4 h
  ·exact k5 h
  ·exact k6 h
  ·exact k7 h
  ·exact k8 h
 have next:m+1≤bO n→aD 0 ld isV isJ isMu isOut ⟨n,m⟩ .normal ((isV ⟨n,m+1⟩).map some) []:=by
  intro h;refine⟨⟨n,m+1⟩,?_,ue _,?_,fun K hK=>hK⟩
  ·simp only[ld,ad,decide_eq_true_eq];omega
  ·simp only[isMu];omega
 obtain rfl|rfl|rfl|rfl|rfl|rfl|rfl|rfl:m=1∨m=2∨m=3∨m=4∨m=5∨m=6∨m=7∨m=8:=by omega
 ·show al Qq DT9 9 10 (ah 9) 134 28 [0,2,3] [.int .i64 n,.str [],.int .i64 1] [] _;rw[int_r1];exact hZ (sd n) p2 next stop
 ·show al Qq DT9 9 10 (ah 9) 134 28 [0,2,3] [.int .i64 n,.str [],.int .i64 2] [] _;rw[int_r2];exact hZ (sb n) p2 next stop
 ·show al Qq DT9 9 10 (ah 9) 134 28 [0,2,3] [.int .i64 n,.str [],.int .i64 3] [] _;rw[int_r3];exact hZ (r9 n) p2 next stop
 ·show al Qq DT9 9 10 (ah 9) 134 28 [0,2,3] [.int .i64 n,.str [],.int .i64 4] [] _;rw[int_r4];exact hZ (r8 n) p2 next stop
 ·show al Qq DT9 9 10 (ah 9) 134 28 [0,2,3] [.int .i64 n,.str [],.int .i64 5] [] _;rw[int_r5];exact hZ (r7 n) p2 next stop
 ·show al Qq DT9 9 10 (ah 9) 134 28 [0,2,3] [.int .i64 n,.str [],.int .i64 6] [] _;rw[int_r6];exact hZ (rZ n) p2 next stop
 ·show al Qq DT9 9 10 (ah 9) 134 28 [0,2,3] [.int .i64 n,.str [],.int .i64 7] [] _;rw[int_r7];exact hZ (rY n) p2 next stop
 ·show al Qq DT9 9 10 (ah 9) 134 28 [0,2,3] [.int .i64 n,.str [],.int .i64 8] [] _;rw[int_r8];exact stop (by omega)
def lk16:Nat→Trans→Trans:=ba 28 (bK 0 (szOf Qq 134) [0,2,3] isDec ld isV isJ isOut) (ah 9)
theorem int_loop{f:Fr}{st:St}{Q:Exit→Fr→St→Prop}(h:bK 0 (szOf Qq 134) [0,2,3] isDec ld isV isJ isOut f st Q):CodeSatW Qq none 0 (.loop (cO Qq 134 28)) f st Q:=
 bc (P:=Qq) (T:=DT9) (k:=0) (lim:=9) (n:=10) (g:=134) (p0:=28) (lk:=ah 9) aA DT9_ok (bf 9 _ _) isMu int_round h
theorem lk16_ok:aQ Qq 0 lk16 134:=by
 unfold lk16;exact bB (aY 9 0 134) (by kernel_rfl) fun f st Q h=>int_loop h
def DT10:Tab:=⟨noT,noL,cI (aT 9) 134 0 lk16⟩
theorem DT10_ok:TabOk3 Qq DT10:=⟨aJ,aK,bq (au 9) lk16_ok⟩
theorem int_tree(n:Int)(R:V→Prop):runW Qq DT10 9 10 134 [.int .i64 n] R=
  (
 Fits 0 [.int i64 n,.str [],.int i64 1] [] [some (.int i64 n),some (.str []),some (.int i64 1)] []∧bif ld {n:=n,m:=1}
 then(bO n=1→R (.str (List.map Vm.byteOf [.int u8 (u8.wrap (n.fdiv 1))])))∧(bO n=2→R (.str (List.map Vm.byteOf [.int u8
 (u8.wrap (n.fdiv 256)),.int u8 (u8.wrap (n.fdiv 1))])))∧(bO n=3→R (.str (List.map Vm.byteOf [.int u8 (u8.wrap (n.fdiv
 65536)),.int u8 (u8.wrap (n.fdiv 256)),.int u8 (u8.wrap (n.fdiv 1))])))∧(bO n=4→R (.str (List.map Vm.byteOf [.int
 u8 (u8.wrap (n.fdiv 16777216)),.int u8 (u8.wrap (n.fdiv 65536)),.int u8 (u8.wrap (n.fdiv 256)),.int u8
 (u8.wrap (n.fdiv 1))])))∧(bO n=5→R (.str (List.map Vm.byteOf [.int u8 (u8.wrap (n.fdiv 4294967296)),.int u8 (u8.wrap
 (n.fdiv 16777216)),.int u8 (u8.wrap (n.fdiv 65536)),.int u8 (u8.wrap (n.fdiv 256)),.int u8 (u8.wrap (n.fdiv 1))])))
 ∧(bO n=6→R (.str (List.map Vm.byteOf [.int u8 (u8.wrap (n.fdiv 1099511627776)),.int u8 (u8.wrap (n.fdiv 4294967296)),.int
 u8 (u8.wrap (n.fdiv 16777216)),.int u8 (u8.wrap (n.fdiv 65536)),.int u8 (u8.wrap (n.fdiv 256)),.int u8
 (u8.wrap (n.fdiv 1))])))∧(bO n=7→R (.str (List.map Vm.byteOf [.int u8 (u8.wrap (n.fdiv 281474976710656)),.int u8
 (u8.wrap (n.fdiv 1099511627776)),.int u8 (u8.wrap (n.fdiv 4294967296)),.int u8 (u8.wrap (n.fdiv 16777216)),.int u8
 (u8.wrap (n.fdiv 65536)),.int u8 (u8.wrap (n.fdiv 256)),.int u8 (u8.wrap (n.fdiv 1))])))∧(bO n=8→R (.str (List.map
 Vm.byteOf [.int u8 (u8.wrap (n.fdiv 72057594037927936)),.int u8 (u8.wrap (n.fdiv 281474976710656)),.int u8 (u8.wrap
 (n.fdiv 1099511627776)),.int u8 (u8.wrap (n.fdiv 4294967296)),.int u8 (u8.wrap (n.fdiv 16777216)),.int u8 (u8.wrap
 (n.fdiv 65536)),.int u8 (u8.wrap (n.fdiv 256)),.int u8 (u8.wrap (n.fdiv 1))])))else False):=by kernel_rfl
def intL(n:Int):List UInt8:=beL (bO n).toNat n
def intF:List V→Option V
 |[.int .i64 n]=>some (.str (intL n))
 |_=>none
theorem int_ok(args:List V)(v:V)(h:intF args=some v):FnSat Qq 134 args [] (Is (v,[])):=by
 unfold intF at h;split at h
 ·rename_i n;cases h;refine ax (lim:=9) (n:=10) aA DT10_ok rfl rfl ?_;rw[int_tree];have hmx:=fN n;refine⟨ue ⟨n,1⟩,aa (by simp only[ld,ad,decide_eq_true_eq];omega) ⟨?_,?_,?_,?_,?_,?_,?_,?_⟩⟩<;>(intro h;unfold intL;rw[h];rfl)
 ·cases h
theorem many_range{n:Int}(h0:-9223372036854775808≤n)(h1:n≤9223372036854775807):∃m,(bO n).toNat=m+1∧-(128*((256^m:Nat):Int))≤n∧n<128*((256^m:Nat):Int):=by
 unfold bO
 repeat' split
 ·exact⟨0,rfl,by simp;omega,by simp;omega⟩
 ·exact⟨1,rfl,by simp;omega,by simp;omega⟩
 ·exact⟨2,rfl,by simp;omega,by simp;omega⟩
 ·exact⟨3,rfl,by simp;omega,by simp;omega⟩
 ·exact⟨4,rfl,by simp;omega,by simp;omega⟩
 ·exact⟨5,rfl,by simp;omega,by simp;omega⟩
 ·exact⟨6,rfl,by simp;omega,by simp;omega⟩
 ·exact⟨7,rfl,by simp;omega,by simp;omega⟩
theorem dec_int{n:Int}(h0:-9223372036854775808≤n)(h1:n≤9223372036854775807):dec (intL n)=n:=by
 obtain⟨m,e,k1,k2⟩:=many_range h0 h1;unfold intL;rw[e];exact dec_be k1 k2
theorem ql(n:Int):(intL n).length=(bO n).toNat:=o4 n _
theorem rd_round(s:List UInt8)(n i:Int)(R:Qz):al Qq DT9 9 10 (ah 9) 88 122 [0,2,3,4,5] [.str s,.int .i64 0,.int .i64 0,.int .i64 n,.int .i64 i] [] R=
  (
 bif decide (i<(↑s.length:Int))then bif decide (0≤i)&&i.toNat.blt s.length then R .normal [some (.str s),some (.int i64 0),some (.int i64
 0),some (.int i64 (i64.wrap (↑(BitVec.ofInt 64 (i64.wrap (n*256))|||BitVec.ofInt 64 (i64.wrap (↑(s.getD i.toNat 0).toNat:
 Int))).toNat:Int))),some (.int i64 (i64.wrap (i+1)))] []else False else R (.exit 0) [some (.str s),some (.int i64 0),some (.int
 i64 0),some (.int i64 n),some (.int i64 i)] []):=by kernel_rfl
structure RS where
 s:List UInt8
 n:Int
 i:Int
def rsV(x:RS):List V:=[.str x.s,.int .i64 0,.int .i64 0,.int .i64 x.n,.int .i64 x.i]
def rsJ(x:RS):St:=[]
def nZ(x:RS):Bool:=decide (1≤x.i)&&decide (x.i≤x.s.length)&&decide (x.s.length≤8)&&decide (x.n=dec (x.s.take x.i.toNat))
def rsMu(x:RS):Nat:=x.s.length-x.i.toNat
def rsDec:List (Option V)→St→Option RS
 |[some (.str s),some (.int .i64 0),some (.int .i64 0),some (.int .i64 n),some (.int .i64 i)],[]=>some ⟨s,n,i⟩
 |_,_=>none
def rsOut:Asks RS:=fun x K=>K (.exit 0) (rsV ⟨x.s,dec x.s,x.s.length⟩) []
theorem tn(x:RS):Fits 0 (rsV x) [] ((rsV x).map some) []:=⟨[],rsV x,rfl,rfl,FitsM.of trivial,by simp,fun i hi=>by omega⟩
theorem dec_small{s:List UInt8}{i:Nat}(h:i<8)(hs:s≠[]):-36028797018963968≤dec (s.take i)∧dec (s.take i)<36028797018963968:=by
 cases hl:s.take i with
 |nil=>simp[dec]
 |cons b r=>
  have hb:=lU b r;have hlen:r.length≤6:=by
   have:=congrArg List.length hl;simp at this;omega
  have:((256^r.length:Nat):Int)≤((256^6:Nat):Int):=by
   have:=Nat.pow_le_pow_right (n:=256) (by omega) hlen;omega
  have e:((256^6:Nat):Int)=281474976710656:=by simp
  omega
theorem rd_roundOk(x:RS)(hx:nZ x=true):al Qq DT9 9 10 (ah 9) 88 122 [0,2,3,4,5] (rsV x) (rsJ x) (aD 0 nZ rsV rsJ rsMu rsOut x):=by
 obtain⟨s,n,i⟩:=x;simp only[nZ,ad,decide_eq_true_eq]at hx;have p1:=hx.1.1.1;have p2:=hx.1.1.2;have p3:=hx.1.2;have p4:=hx.2;clear hx;show al Qq DT9 9 10 (ah 9) 88 122 [0,2,3,4,5] [.str s,.int .i64 0,.int .i64 0,.int .i64 n,.int .i64 i] [] _;rw[rd_round];refine ac (fun h=>aa ?_ ?_) (fun h=>?_)
 ·have h:=aN h;rw[ad];exact⟨am (by omega),ag (by omega)⟩
 ·have h:=aN h;have hs:s≠[]:=by intro e;rw[e]at h;simp at h;omega
  have hb:=dec_small (i:=i.toNat) (s:=s) (by omega) hs;rw[←p4]at hb;have e1:i64.wrap (n*256)=n*256:=IntWalk.i64_in _ ⟨by omega,by omega⟩;have e2:i64.wrap (i+1)=i+1:=IntWalk.i64_in _ ⟨by omega,by omega⟩;have e3:=dec_take (s:=s) (i:=i.toNat) (by omega) (by omega);rw[e1,e2,mT,or_byte n _ hb.1 hb.2 (s.getD i.toNat 0).toNat_lt];refine⟨⟨s,n*256+(s.getD i.toNat 0).toNat,i+1⟩,?_,tn _,by simp only[rsMu];omega,fun K hK=>hK⟩;simp only[nZ,ad,decide_eq_true_eq];refine⟨⟨⟨by omega,by omega⟩,p3⟩,?_⟩;rw[show(i+1).toNat=i.toNat+1 by omega,e3,←p4]
 ·have h:=bk h;have hi:i=s.length:=by omega
  subst hi;rw[p4,bp,List.take_length];exact⟨_,_,fun K hK=>hK,tn ⟨s,dec s,s.length⟩⟩
def lk12:Nat→Trans→Trans:=ba 122 (bK 0 (szOf Qq 88) [0,2,3,4,5] rsDec nZ rsV rsJ rsOut) (ah 9)
theorem rd_loop{f:Fr}{st:St}{Q:Exit→Fr→St→Prop}(h:bK 0 (szOf Qq 88) [0,2,3,4,5] rsDec nZ rsV rsJ rsOut f st Q):CodeSatW Qq none 0 (.loop (cO Qq 88 122)) f st Q:=
 bc (P:=Qq) (T:=DT9) (k:=0) (lim:=9) (n:=10) (g:=88) (p0:=122) (lk:=ah 9) aA DT9_ok (bf 9 _ _) rsMu rd_roundOk h
theorem lk12_ok:aQ Qq 0 lk12 88:=by
 unfold lk12;exact bB (aY 9 0 88) (by kernel_rfl) fun f st Q h=>rd_loop h
def DT11:Tab:=⟨addP noT 134 intF,noL,cI (aT 9) 88 0 lk12⟩
theorem DT11_ok:TabOk3 Qq DT11:=⟨bg aJ int_ok,aK,bq (au 9) lk12_ok⟩
theorem read_tree(s:List UInt8)(R:V→Prop):runW Qq DT11 9 10 88 [.str s] R=
  (
 bif decide ((↑s.length:Int)<1)then R (.tuple [.int i64 0,.int i64 4])else bif decide ((↑s.length:Int)>8)then R (.tuple [.int i64
 0,.int i64 4])else bif true&&Nat.blt 0 s.length then Fits 0 [.str s,.int i64 0,.int i64 0,.int i64 (i64.wrap
 (i8.wrap (↑(s.getD 0 0).toNat:Int))),.int i64 1] [] [some (.str s),some (.int i64 0),some (.int i64 0),some (.int i64
 (i64.wrap (i8.wrap (↑(s.getD 0 0).toNat:Int)))),some (.int i64 1)] []∧bif nZ {s:=s,n:=i64.wrap (i8.wrap (↑(s.getD 0 0).toNat:Int)),i:=1}
 then bif !intL (dec s)==s then R (.tuple [.int i64 0,.int i64 4])else R (.tuple [.int i64 (dec s),.int i64 0])else False else
 False):=by kernel_rfl
def bo(s:List UInt8):Int:=if s.length<1∨8<s.length then 4 else if intL (dec s)=s then 0 else 4
def aW(s:List UInt8):Int:=if bo s=0 then dec s else 0
def rL:List V→Option V
 |[.str s]=>some (.tuple [.int .i64 (aW s),.int .i64 (bo s)])
 |_=>none
theorem i8_byte(b:UInt8):i64.wrap (i8.wrap (b.toNat:Int))=sgnB b:=by
 have hb:=b.toNat_lt;have e:i8.wrap (b.toNat:Int)=sgnB b:=by
  simp[IntKind.wrap,IntKind.bits,IntKind.signed,sgnB];split<;>split<;>omega
 rw[e,IntWalk.i64_in _ ⟨by unfold sgnB;split<;>omega,by unfold sgnB;split<;>omega⟩]
theorem read_ok(args:List V)(v:V)(h:rL args=some v):FnSat Qq 88 args [] (Is (v,[])):=by
 unfold rL at h;split at h
 ·rename_i s;cases h;refine ax (lim:=9) (n:=10) aA DT11_ok rfl rfl ?_;rw[read_tree];refine ac (fun h=>?_) (fun h=>ac (fun h1=>?_) (fun h1=>aa ?_ ?_))
  ·have h:s.length<1:=by have:=aN h;omega
   have e:bo s=4:=by unfold bo;rw[if_pos (.inl h)]
   simp[aW,e]
  ·have h1:8<s.length:=by have:=aN h1;omega
   have e:bo s=4:=by unfold bo;rw[if_pos (.inr h1)]
   simp[aW,e]
  ·have:=bk h;rw[aH];exact ag (by omega)
  ·have h0:¬(s.length<1∨8<s.length):=by have:=bk h;have:=bk h1;omega
   rw[i8_byte];refine⟨tn ⟨s,sgnB (s.getD 0 0),1⟩,aa ?_ (ac (fun h2=>?_) (fun h2=>?_))⟩
   ·cases s with
    |nil=>simp at h0
    |cons b r=>
     simp only[nZ,ad,decide_eq_true_eq,bi]at h0 ⊢;refine⟨⟨⟨by omega,by omega⟩,by omega⟩,rfl⟩
   ·have h2:¬intL (dec s)=s:=by simpa using h2
    have e:bo s=4:=by unfold bo;rw[if_neg h0,if_neg h2]
    simp[aW,e]
   ·have h2:intL (dec s)=s:=by simpa using h2
    have e:bo s=0:=by unfold bo;rw[if_neg h0,if_pos h2]
    simp[aW,e]
 ·cases h
theorem read_int{n:Int}(h0:-9223372036854775808≤n)(h1:n≤9223372036854775807):bo (intL n)=0∧aW (intL n)=n:=by
 have hd:=dec_int h0 h1;have hl:=ql n;have hm:=fN n;have e:bo (intL n)=0:=by unfold bo;rw[if_neg (by omega),hd,if_pos rfl]
 exact⟨e,by unfold aW;rw[if_pos e,hd]⟩
theorem rJ{s:List UInt8}(h:bo s=0):intL (aW s)=s:=by
 unfold aW;rw[if_pos h];unfold bo at h;split at h
 ·omega
 ·split at h
  ·assumption
  ·omega
def DT13:Tab:=⟨noT,noL,aT 9⟩
theorem DT13_ok:TabOk3 Qq DT13:=⟨aJ,aK,au 9⟩
theorem rdbool_tree(s:List UInt8)(R:V→Prop):runW Qq DT13 9 10 89 [.str s] R=
  (
 bif !s==[255]then bif !s==[0]then R (.tuple [.bool false,.int IntKind.i64 4])else R (.tuple [.bool (s==[255]),.int IntKind.i64 0])else R (.tuple
 [.bool (s==[255]),.int IntKind.i64 0])):=by kernel_rfl
def ip(b:Bool):List UInt8:=bif b then[255]else[0]
def boolF:List V→Option V
 |[.bool b]=>some (.str (ip b))
 |_=>none
def rbE(s:List UInt8):Int:=if s=[255]∨s=[0]then 0 else 4
def kq:List V→Option V
 |[.str s]=>some (.tuple [.bool (s==[255]),.int .i64 (rbE s)])
 |_=>none
theorem rdbool_ok(args:List V)(v:V)(h:kq args=some v):FnSat Qq 89 args [] (Is (v,[])):=by
 unfold kq at h;split at h
 ·rename_i s;cases h;refine ax (lim:=9) (n:=10) aA DT13_ok rfl rfl ?_;rw[rdbool_tree];by_cases h1:s=[255]
  ·subst h1;rfl
  ·have e1:(s==[255])=false:=by simpa using h1
   by_cases h2:s=[0]
   ·subst h2;rfl
   ·have e2:(s==[0])=false:=by simpa using h2
    have e3:rbE s=4:=by unfold rbE;rw[if_neg (by simp[h1,h2])]
    rw[e1,e2,e3];rfl
 ·cases h
theorem jw{n:Nat}(h:n<256):(UInt8.ofNat n).toNat=n:=by simp only[UInt8.toNat_ofNat'];omega
theorem jj(a:UInt8):UInt8.ofNat a.toNat=a:=by simp
theorem ph(n:Nat)(hn:n≤65535)(s:List UInt8):cC (lenB n++s)=(n,(lenB n).length,0):=by
 unfold lenB;split
 ·rename_i h;have h1:(UInt8.ofNat (n/256)).toNat=n/256:=jw (by omega);have h2:(UInt8.ofNat n).toNat=n%256:=by simp only[UInt8.toNat_ofNat']
  have h0:(130:UInt8).toNat=130:=rfl;simp only[List.cons_append,List.nil_append,cC,h0,h1,h2];rw[if_neg (by omega),if_neg (by omega),if_pos trivial,if_neg (by omega)];simp only[bi,List.length_nil];congr 1;omega
 ·split
  ·have h2:(UInt8.ofNat n).toNat=n:=jw (by omega);have h0:(129:UInt8).toNat=129:=rfl;simp only[List.cons_append,List.nil_append,cC,h0,h2];rw[if_neg (by omega),if_pos trivial,if_neg (by omega)];rfl
  ·have h2:(UInt8.ofNat n).toNat=n:=jw (by omega);simp only[List.cons_append,List.nil_append,cC,h2];rw[if_pos (by omega)];rfl
theorem size_inv(r:List UInt8)(h:ec r=0):lenB (cT r)++r.drop (cu r)=r∧(lenB (cT r)).length=cu r∧cu r≤r.length:=by
 unfold ec cT cu at*
 cases r with
 |nil=>simp[cC]at h
 |cons a r=>
  have ha:=a.toNat_lt;by_cases h1:a.toNat≤127
  ·have e:cC (a::r)=(a.toNat,1,0):=by simp only[cC];rw[if_pos h1]
   rw[e];have:lenB a.toNat=[a]:=by unfold lenB;rw[if_neg (by omega),if_neg (by omega),jj]
   simp[this]
  ·by_cases h2:a.toNat=129
   ·cases r with
    |nil=>simp[cC,h2]at h
    |cons b r=>
     have hb:=b.toNat_lt;by_cases h3:b.toNat≤127
     ·simp[cC,h2,h3]at h
     ·have e:cC (a::b::r)=(b.toNat,2,0):=by simp only[cC];rw[if_neg h1,if_pos h2,if_neg h3]
      rw[e];have ea:a=129:=UInt8.toNat_inj.1 h2;have:lenB b.toNat=[129,b]:=by unfold lenB;rw[if_neg (by omega),if_pos (by omega),jj]
      simp[this,ea]
   ·by_cases h3:a.toNat=130
    ·cases r with
     |nil=>simp[cC,h3]at h
     |cons b r=>
      have hb:=b.toNat_lt;by_cases h4:b.toNat=0
      ·simp[cC,h3,h4]at h
      ·cases r with
       |nil=>simp[cC,h3,h4]at h
       |cons c r=>
        have hc:=c.toNat_lt;have e:cC (a::b::c::r)=(b.toNat*256+c.toNat,3,0):=by simp only[cC];rw[if_neg h1,if_neg h2,if_pos h3,if_neg h4]
        rw[e];have ea:a=130:=UInt8.toNat_inj.1 h3;have e1:UInt8.ofNat ((b.toNat*256+c.toNat)/256)=b:=by
         rw[show(b.toNat*256+c.toNat)/256=b.toNat by omega,jj]
        have e2:UInt8.ofNat (b.toNat*256+c.toNat)=c:=by
         apply UInt8.toNat_inj.1;simp only[UInt8.toNat_ofNat'];omega
        have:lenB (b.toNat*256+c.toNat)=[130,b,c]:=by unfold lenB;rw[if_pos (by omega),e1,e2]
        simp[this,ea]
    ·simp[cC,h1,h2,h3]at h
theorem put_get{t:Int}{x s:List UInt8}(ht:fK t=true)(h:putE t x=0):getE (putB t x++s)=0∧getT (putB t x++s)=t∧getX (putB t x++s)=x∧getR (putB t x++s)=s:=by
 obtain⟨n,rfl,hn⟩:=lH ht;unfold putE at h;by_cases h1:(n:Int)%32=31
 ·rw[if_pos h1]at h;omega
 rw[if_neg h1]at h;by_cases h2:x.length>65535
 ·rw[if_pos h2]at h;omega
 have e:putB n x++s=UInt8.ofNat n::(lenB x.length++(x++s)):=by
  unfold putB;rw[if_neg h1,if_neg h2];simp
 have hz:=ph x.length (by omega) (x++s);have hb:=jw hn;rw[e];have e0:getE (UInt8.ofNat n::(lenB x.length++(x++s)))=0:=by
  simp only[getE,ec,cu,cT,hz,hb];rw[if_neg (by omega),if_pos trivial,if_neg (by simp)]
 refine⟨e0,?_,?_,?_⟩
 ·unfold getT;rw[if_pos e0];simp only[List.getD_cons_zero,hb]
 ·unfold getX;rw[if_pos e0];simp only[List.drop_succ_cons,List.drop_zero,cu,cT,hz];rw[List.drop_left,List.take_left]
 ·unfold getR;rw[if_pos e0];simp only[List.drop_succ_cons,List.drop_zero,cu,cT,hz];rw[List.drop_left,List.drop_left]
theorem get_put{s:List UInt8}(h:getE s=0):fK (getT s)=true∧putE (getT s) (getX s)=0∧putB (getT s) (getX s)++getR s=s:=by
 cases s with
 |nil=>simp[getE]at h
 |cons t r=>
  have ht:=t.toNat_lt;have h0:=h;simp only[getE]at h;by_cases h1:t.toNat%32=31
  ·rw[if_pos h1]at h;omega
  rw[if_neg h1]at h;by_cases h2:ec r=0
  ·rw[if_pos h2]at h;by_cases h3:r.length<cu r+cT r
   ·rw[if_pos h3]at h;omega
   have hi:=size_inv r h2;have hs:=gY r;have e1:getT (t::r)=(t.toNat:Int):=by unfold getT;rw[if_pos h0];rfl
   have e2:getX (t::r)=(r.drop (cu r)).take (cT r):=by unfold getX;rw[if_pos h0];rfl
   have e3:getR (t::r)=(r.drop (cu r)).drop (cT r):=by unfold getR;rw[if_pos h0];rfl
   have e4:((r.drop (cu r)).take (cT r)).length=cT r:=by simp;omega
   have n1:¬(t.toNat:Int)%32=31:=by omega
   rw[e1,e2,e3];refine⟨by simp[fK];omega,?_,?_⟩
   ·unfold putE;rw[if_neg n1,if_neg (by rw[e4];omega)]
   ·unfold putB;rw[if_neg n1,if_neg (by rw[e4];omega),e4];simp only[bp,jj,List.cons_append,List.append_assoc,List.take_append_drop,hi.1]
  ·rw[if_neg h2]at h;exact absurd h h2
theorem mJ(n:Nat):(lenB n).length≤3:=by unfold lenB;(repeat' split)<;>simp
theorem putB_len(t:Int)(x:List UInt8):(putB t x).length≤x.length+4:=by
 have:=mJ x.length;unfold putB;(repeat' split)<;>simp<;>omega
theorem put_none{t:Int}{x:List UInt8}:putE t x≠0↔putB t x=[]:=by
 unfold putE putB;(repeat' split)<;>simp
def D0:Tab:=⟨addT noT 71 cfP,noL,aT 9⟩
theorem D0_ok:TabOk3 Qq D0:=⟨aR aJ cf_ok,aK,au 9⟩
theorem cmay_tree(k g:List UInt8)(x:Value)(n:Nat)(cs:List V)(f u:Int)(ca:Bool)(R:V→Prop):runW Qq D0 9 10 90 [.agg [.str k,.str g,.lst x n cs,.int .i64 f,.int .i64 u,.bool ca]] R=
  (
 bif decide ((↑k.length:Int)>0)then bif decide ((↑k.length:Int)≤64)then bif (↑g.length:Int)==32 then bif decide (f≥0)then bif decide (f≤1099511627776)
 then bif decide (u≥0)then bif decide (u≤1099511627776)then bif okS n cs then R (.bool !!allP cs)else False else R (.bool false)else R (.bool false)else R
 (.bool false)else R (.bool false)else R (.bool false)else R (.bool false)else R (.bool false)):=by kernel_rfl
structure CT where
 k:List UInt8
 g:List UInt8
 x:Value
 n:Nat
 cs:List V
 f:Int
 u:Int
 ca:Bool
def CT.cells(c:CT):List V:=[.str c.k,.str c.g,.lst c.x c.n c.cs,.int .i64 c.f,.int .i64 c.u,.bool c.ca]
def CT.v(c:CT):V:=.agg [.str c.k,.str c.g,.lst c.x c.n c.cs,.int .i64 c.f,.int .i64 c.u,.bool c.ca]
def mayC(k g:List UInt8)(f u:Int):Bool:=decide ((k.length:Int)>0)&&(decide ((k.length:Int)≤64)&&(((g.length:Int)==32)&&(decide (f≥0)&&(decide (f≤1099511627776)&&(decide (u≥0)&&decide (u≤1099511627776))))))
def mayG:List V→St→Option (Qx)
 |[.agg [.str k,.str g,p,.int .i64 f,.int .i64 u,.bool _]],st=>match bC st p with
  |some (b,l)=>some [(b&&Nat.ble l.length 9223372036854775807,(.bool (mayC k g f u&&l.all patN),st))]
  |none=>none
 |_,_=>none
theorem cmay_sat(k g:List UInt8)(x:Value)(l:List (List UInt8))(f u:Int)(ca:Bool)(hl:l.length≤9223372036854775807):FnSat Qq 90 [.agg [.str k,.str g,lstS x l,.int .i64 f,.int .i64 u,.bool ca]] [] (Is (.bool (mayC k g f u&&l.all patN),[])):=by
 refine ax (lim:=9) (n:=10) aA D0_ok rfl rfl ?_;unfold lstS;rw[cmay_tree,dH hl];have ha:allP (strs l)=l.all patN:=by unfold allP;rw[ai]
 rw[ha];unfold mayC;refine ac (fun h=>?_) (fun h=>by rw[h];rfl);rw[h];refine ac (fun h=>?_) (fun h=>by rw[h];rfl);rw[h];refine ac (fun h=>?_) (fun h=>by rw[h];rfl);rw[h];refine ac (fun h=>?_) (fun h=>by rw[h];rfl);rw[h];refine ac (fun h=>?_) (fun h=>by rw[h];rfl);rw[h];refine ac (fun h=>?_) (fun h=>by rw[h];rfl);rw[h];refine ac (fun h=>?_) (fun h=>by rw[h];rfl);rw[h];simp only[ae,aH,Bool.not_not]
theorem real_agg6{m:List MB}{a b c d e f:V}{x:Value}(h:real m (.agg [a,b,c,d,e,f])=some x):∃a' b' c' d' e' f',x=.agg #[a',b',c',d',e',f']∧real m a=some a'∧real m b=some b'∧real m c=some c'∧real m d=some d'∧real m e=some e'∧real m f=some f':=by
 obtain⟨xs,h1,rfl⟩:=ee h;obtain⟨a',r1,q1,g1,rfl⟩:=aj h1;obtain⟨b',r2,q2,g2,rfl⟩:=aj g1;obtain⟨c',r3,q3,g3,rfl⟩:=aj g2;obtain⟨d',r4,q4,g4,rfl⟩:=aj g3;obtain⟨e',r5,q5,g5,rfl⟩:=aj g4;obtain⟨f',r6,q6,g6,rfl⟩:=aj g5;simp only[ap,af]at g6;subst g6;exact⟨a',b',c',d',e',f',rfl,q1,q2,q3,q4,q5,q6⟩
theorem real_agg_mk{m:List MB}{l:List V}{xs:List Value}(h:ap m l=some xs):real m (.agg l)=some (.agg xs.toArray):=by simp only[real,h]
theorem qG{B:Nat}{W0 w:World}{m:List MB}{st:St}(hr:Rel B W0 m st w){k g:List UInt8}{p:V}{l:List (List UInt8)}{f u:Int}{ca:Bool}{x:Value}(hv:bC st p=some (true,l))(hx:real m (.agg [.str k,.str g,p,.int .i64 f,.int .i64 u,.bool ca])=some x):
  ∃y,@real gl (Frz.of w) [] (.agg [.str k,.str g,lstS y l,.int .i64 f,.int .i64 u,.bool ca])=some x:=by
 obtain⟨a',b',c',d',e',f',rfl,q1,q2,q3,q4,q5,q6⟩:=real_agg6 hx;have h3:=cB hr hv q3;refine⟨c',?_⟩;have h1:=bJ (Ψ:=Frz.of w) (m':=[]) (.str k) a' rfl q1;have h2:=bJ (Ψ:=Frz.of w) (m':=[]) (.str g) b' rfl q2;have h4:=bJ (Ψ:=Frz.of w) (m':=[]) (.int .i64 f) d' rfl q4;have h5:=bJ (Ψ:=Frz.of w) (m':=[]) (.int .i64 u) e' rfl q5;have h6:=bJ (Ψ:=Frz.of w) (m':=[]) (.bool ca) f' rfl q6;have mk:∀{v:V} {r:List V} {a:Value} {b:List Value},@real gl (Frz.of w) [] v=some a→@ap gl (Frz.of w) [] r=some b→@ap gl (Frz.of w) [] (v::r)=some (a::b):=fun h1 h2=>@aI gl (Frz.of w) [] _ _ _ _ h1 h2;exact @real_agg_mk (Frz.of w) [] _ [a',b',c',d',e',f'] (mk h1 (mk h2 (mk h3 (mk h4 (mk h5 (mk h6 rfl))))))
theorem mayG_ok(args:List V)(s:St)(l:Qx)(o:V×St)(h:mayG args s=some l)(ho:aL l=some o):FnSat Qq 90 args s (Is o):=by
 unfold mayG at h;split at h
 ·rename_i k g p f u ca;split at h
  ·rename_i b ls hv;cases h;obtain⟨hb,rfl⟩:=aO ho;simp only[ad]at hb;obtain⟨rfl,h1⟩:=hb;refine cx rfl fun B W0 w m rargs hr ha=>?_;obtain⟨a,r,q1,q2,rfl⟩:=aj ha;simp only[ap,af]at q2;subst q2;obtain⟨y,hy⟩:=qG hr hv q1;exact⟨[.agg [.str k,.str g,lstS y ls,.int .i64 f,.int .i64 u,.bool ca]],by simp only[ap,hy],@cmay_sat (Frz.of w) k g y ls f u ca (aw h1)⟩
  ·cases h
 ·cases h
def D1:Tab:=⟨noT,addS noL 133 thG,aT 9⟩
theorem D1_ok:TabOk3 Qq D1:=⟨aJ,bP aK thG_ok,au 9⟩
theorem spki_tree(k:List UInt8)(R:V→Prop):runW Qq D1 9 10 75 [.str k] R=
  (
 bif k==[]then R (.str [])else bif decide ((↑k.length:Int)>64)then R (.str [])else bif true&&(true&&(true&&(k.append []).length.ble 1099511627776))then
 bif true&&(true&&(true&&((putB 4 (k.append [])).append []).length.ble 1099511627776))then R (.str (putB 48 ((putB 4 (k.append [])).append [])))else False else
 False):=by kernel_rfl
def cy(k:List UInt8):List UInt8:=if k=[]then[]else if k.length>64 then[]else putB 48 (putB 4 k)
def mj:List V→Option V
 |[.str k]=>some (.str (cy k))
 |_=>none
theorem cj(t:Int)(x:List UInt8):(putB t x).length≤x.length+4:=putB_len t x
theorem spki_ok(args:List V)(v:V)(h:mj args=some v):FnSat Qq 75 args [] (Is (v,[])):=by
 unfold mj at h;split at h
 ·rename_i k;cases h;refine ax (lim:=9) (n:=10) aA D1_ok rfl rfl ?_;rw[spki_tree];unfold cy;refine ac (fun h=>?_) (fun h=>?_)
  ·rw[if_pos (by simpa using h)]
  rw[if_neg (by simpa using h)];refine ac (fun h1=>?_) (fun h1=>?_)
  ·rw[if_pos (by have:=aN h1;omega)]
  have h1:=bk h1;rw[if_neg (by omega)];have e1:k.append []=k:=List.append_nil k;have e2:(putB 4 k).append []=putB 4 k:=List.append_nil _;have:=cj 4 k;simp only[e1,e2,aH];refine aa (ag (by omega)) (aa (ag (by omega)) trivial)
 ·cases h
theorem jh{s:List UInt8}(h:patN s=true):s.length≤255:=by
 unfold patN mayN at h;rw[ad]at h;have h1:=aN h.1;unfold cV at h1;split at h1
 ·rw[List.length_drop]at h1;omega
 ·omega
def eg(s:List UInt8):List UInt8:=putB 130 s
structure EN where
 c:CT
 i:Nat
def fP(k g:List UInt8)(l:List (List UInt8))(f u:Int)(ca:Bool):List UInt8:=
 [cy k,putB 4 g,putB 48 (l.map eg).flatten,putB 2 (intL f),putB 2 (intL u),putB 1 (ip ca)].flatten
def ig(k g:List UInt8)(l:List (List UInt8))(f u:Int):Bool:=mayC k g f u&&l.all patN&&decide ((l.length:Int)≤64)
def encE(k g:List UInt8)(l:List (List UInt8))(f u:Int)(ca:Bool):Int:=bif ig k g l f u then(bif decide (((putB 48 (fP k g l f u ca)).length:Int)>512)then 40 else 0)else 4
def encB(k g:List UInt8)(l:List (List UInt8))(f u:Int)(ca:Bool):List UInt8:=bif ig k g l f u then(bif decide (((putB 48 (fP k g l f u ca)).length:Int)>512)then[]else putB 48 (fP k g l f u ca))else[]
theorem mV:∀(l:List (List UInt8)) (b:Nat),(∀s∈l,s.length≤b)→l.flatten.length≤l.length*b
 |[],b,_=>by simp
 |s::r,b,h=>by
  have h1:=h s (by simp);have h2:=mV r b (fun t ht=>h t (by simp[ht]));simp only[List.flatten_cons,bQ,bi];rw[Nat.add_mul];omega
theorem kz(n:Int):(intL n).length≤8:=by rw[ql];have:=fN n;omega
def bj:List UInt8→Int
 |[]=>8
 |t::r=>if t.toNat%32=31 then 4 else if ec r=0 then(if IntKind.i64.wrap (((r.length+1:Nat):Int)-((1+cu r:Nat):Int))<cT r then 8 else 0)else ec r
def bU(s:List UInt8):Int:=if bj s=0 then((s.getD 0 0).toNat:Int)else 0
def av(s:List UInt8):List UInt8:=if bj s=0 then((s.drop 1).drop (cu (s.drop 1))).take (cT (s.drop 1))else[]
def cD(s:List UInt8):List UInt8:=if bj s=0 then((s.drop 1).drop (cu (s.drop 1))).drop (cT (s.drop 1))else[]
def getF2:List V→Option V
 |[.str s]=>some (.tuple [.agg [.int .u8 (bU s),.str (av s)],.str (cD s),.int .i64 (bj s)])
 |_=>none
theorem get2_ok(args:List V)(v:V)(h:getF2 args=some v):FnSat Qq 147 args [] (Is (v,[])):=by
 unfold getF2 at h;split at h
 ·rename_i s;cases h;refine ax (lim:=6) (n:=10) aA DT1_ok rfl rfl ?_;rw[get_tree];unfold zb_7 zb_8;cases s with
  |nil=>rfl
  |cons t r=>
   have ht:=t.toNat_lt;have hz:=gY r;have e0:List.take ((t::r).length-1) (List.drop 1 (t::r))=r:=by simp
   have e1:IntKind.i64.wrap (1+(cu r:Int))=((1+cu r:Nat):Int):=by rw[IntWalk.i64_in _ ⟨by omega,by omega⟩];omega
   have e2:IntKind.i64.wrap (((1+cu r:Nat):Int)+(cT r:Int))=((1+cu r+cT r:Nat):Int):=by rw[IntWalk.i64_in _ ⟨by omega,by omega⟩];omega
   rw[e0];simp only[e1,e2,List.getD_cons_zero,and31 _ ht,bp,gF,uA,aH,bi];have hne:((t::r)==[])=false:=rfl;rw[hne,ak];have q1:decide (0<r.length+1)=true:=am (by omega);have q2:(decide (1≤r.length+1)&&decide (r.length+1≤r.length+1))=true:=by simp
   rw[q1,ae,q2,ae];refine ac (fun h=>?_) (fun h=>ac (fun h1=>?_) (fun h1=>ac (fun h2=>?_) (fun h2=>?_)))
   ·have:t.toNat%32=31:=by simp at h;omega
    simp[bU,av,cD,bj,this]
   ·have h0:¬t.toNat%32=31:=by simp at h;omega
    have h1:¬ec r=0:=by simpa using h1
    simp[bU,av,cD,bj,h0,h1]
   ·have h0:¬t.toNat%32=31:=by simp at h;omega
    have h1:ec r=0:=by simpa using h1
    have h2:=aN h2;simp only[bU,av,cD,bj,h0,h1,if_true,if_false];rw[if_pos h2];rfl
   ·have h0:¬t.toNat%32=31:=by simp at h;omega
    have h1:ec r=0:=by simpa using h1
    have h2:=bk h2;have h3:cu r+cT r≤r.length:=by
     rw[IntKind.wrap_i64]at h2;omega
    refine aa rfl (aa (am (by omega)) (aa (am (by omega)) (aa ?_ (aa (am (by omega)) (aa ?_ ?_)))))
    ·simp;omega
    ·simp;omega
    ·have f1:∀k,List.drop (1+k) (t::r)=List.drop k r:=fun k=>by rw[Nat.add_comm];rfl
     have e:bj (t::r)=0:=by simp only[bj,h0,h1,if_true,if_false];rw[if_neg h2]
     simp only[bU,av,cD,e,if_true,List.getD_cons_zero,List.drop_succ_cons,List.drop_zero,Nat.add_assoc,f1,List.drop_drop];congr 5
     ·congr 2;congr 1;omega
     ·congr 2;rw[cz (by simp;omega)]
 ·cases h
theorem getE2_eq{s:List UInt8}(h:s.length≤1099511627776):bj s=getE s:=by
 cases s with
 |nil=>rfl
 |cons t r=>
  have hz:=gY r;simp only[bi]at h;simp only[bj,getE];have e:IntKind.i64.wrap (((r.length+1:Nat):Int)-((1+cu r:Nat):Int))=(r.length:Int)-cu r:=by
   rw[IntWalk.i64_in _ ⟨by omega,by omega⟩];omega
  rw[e]
  (repeat' split)<;>omega
theorem get2_eq{s:List UInt8}(h:s.length≤1099511627776):bj s=getE s∧bU s=getT s∧av s=getX s∧cD s=getR s:=by
 have e:=getE2_eq h;refine⟨e,?_,?_,?_⟩<;>simp only[bU,getT,av,getX,cD,getR,e]
def gc:Code→Option (Array Tmp×Code×Code)
 |.seq a b=>(gc a).or (gc b)
 |.cond _ a b=>(gc a).or (gc b)
 |.block _ c=>gc c
 |.loop c=>gc c
 |.rangeFunc _ ps asg bd=>some (ps,asg,bd)
 |_=>none
def alRg:Array Tmp×Code×Code:=(gc (iq Qq 87)).getD (#[],.skip,.skip)
def alPs:Array Tmp:=alRg.1
def alAs:Code:=alRg.2.1
def alBd:Code:=alRg.2.2
def rgLoopA(P:Program)(g:Nat)(s:LoopState)(p:Option Code)(T:List (Nat×V))(dn:Nat):Blk:=match gc (iq P g)with
 |some (ps,asg,bd)=>.loop s p (szOf P g) (kV .lf T) ps asg bd dn
 |none=>.dead
def alT:List (Nat×V):=[(2,.ptr 0 0),(3,.ptr 1 0),(4,.ptr 2 0)]
def alL(s:LoopState)(p:Option Code):Blk:=rgLoopA Qq 87 s p alT 4
def alM(r0:V)(e:Int)(sl:V)(s:List UInt8)(l:LoopState)(p:Option Code)(rest:St):St:=
 [.row [r0] 132 1,.row [.int .i64 e] 85 1,.row [sl] 132 1,.row [.str s] 9 1,.defd,alL l p]++rest
def TA:Tab:=⟨addP noT 147 getF2,noL,aT 9⟩
theorem TA_ok:TabOk3 Qq TA:=⟨bg aJ get2_ok,aK,au 9⟩
def zl_0(s:List UInt8):=[V.int u8 (bU s),V.str (av s)]
def zl_1(s:List UInt8):=[Blk.row [V.nilSlice] 132 1,Blk.row [V.int i64 0] 85 1,Blk.row [V.slice 9 0 1 false 0 0] 132 1,Blk.row [V.str (cD s)] 9 1,Blk.defd,alL LoopState.ready none,Blk.row (zl_0 s) 136 2,Blk.row (zl_0 s) 136 2,Blk.row (zl_0 s) 136 2,Blk.row (zl_0 s) 136 2]
def zl_2(s:List UInt8):=[Blk.row [V.nilSlice] 132 1,Blk.row [V.int i64 0] 85 1,Blk.row [V.slice 9 0 1 false 0 0] 132 1,Blk.row [V.str s] 9 1,Blk.defd,alL LoopState.ready none,Blk.row (zl_0 s) 136 2,Blk.row (zl_0 s) 136 2,Blk.row (zl_0 s) 136 2,Blk.row (zl_0 s) 136 2]
def zl_3(s:List UInt8):=[Blk.row [V.nilSlice] 132 1,Blk.row [V.int i64 (bj s)] 85 1,Blk.row [V.nilSlice] 132 1,Blk.row [V.str s] 9 1,Blk.defd,alL LoopState.done (some Code.ret),Blk.row (zl_0 s) 136 2,Blk.row (zl_0 s) 136 2]
def zl_4:=[some (V.yield 5),some (V.ptr 3 0)]
theorem al_round0(s:List UInt8)(R:Qz):al Qq TA 9 10 (ah 9) 188 2 [0,1] [.yield 5,.ptr 3 0] (alM .nilSlice 0 .nilSlice s .ready none []) R=
 (
 bif !s==[]then bif bj s==0 then bif bj s !=0 then R .ret zl_4 (zl_3 s)else bif bj s !=0 then R .ret zl_4 (zl_2 s)else R .normal
 zl_4 (zl_1 s)else bif bj s !=0 then R .ret zl_4 (zl_3 s)else bif bj s !=0 then R .ret zl_4 (zl_2 s)else R .normal zl_4 (zl_1 s)else R
 (.exit 0) zl_4 [.row [.nilSlice] 132 1,.row [.int i64 0] 85 1,.row [.nilSlice] 132 1,.row [.str s] 9 1,Blk.defd,alL
 LoopState.ready none]):=by kernel_rfl
def zl_5(s:List UInt8):=[V.int u8 (bU s),V.str (av s)]
def zl_6(s:List UInt8)(o:List V)(n:Nat):=[Blk.row [V.nilSlice] 132 1,Blk.row [V.int i64 0] 85 1,Blk.row [V.slice 10 0 (n+1) false 0 0] 132 1,Blk.row [V.str (cD s)] 9 1,Blk.defd,alL LoopState.ready none,Blk.dead,Blk.row (zl_5 s) 136 2,Blk.row (zl_5 s) 136 2,Blk.row (zl_5 s) 136 2,Blk.row (o++(zl_5 s)) 136 2]
def zl_7(s:List UInt8)(o:List V)(n:Nat):=[Blk.row [V.nilSlice] 132 1,Blk.row [V.int i64 0] 85 1,Blk.row [V.slice 10 0 (n+1) false 0 0] 132 1,Blk.row [V.str s] 9 1,Blk.defd,alL LoopState.ready none,Blk.dead,Blk.row (zl_5 s) 136 2,Blk.row (zl_5 s) 136 2,Blk.row (zl_5 s) 136 2,Blk.row (o++(zl_5 s)) 136 2]
def zl_8:=[some (V.yield 5),some (V.ptr 3 0)]
def zl_9(s:List UInt8)(o:List V)(n:Nat):=[Blk.row [V.nilSlice] 132 1,Blk.row [V.int i64 (bj s)] 85 1,Blk.row [V.slice 6 0 n false 0 0] 132 1,Blk.row [V.str s] 9 1,Blk.defd,alL LoopState.done (some Code.ret),Blk.row o 136 2,Blk.row (zl_5 s) 136 2,Blk.row (zl_5 s) 136 2]
theorem al_round1(s:List UInt8)(o:List V)(n:Nat)(R:Qz):al Qq TA 9 10 (ah 9) 188 2 [0,1] [.yield 5,.ptr 3 0] (alM .nilSlice 0 (.slice 6 0 n false 0 0) s .ready none [.row o 136 2]) R=
 (
 bif !s==[]then bif bj s==0 then bif (↑n:Int)==64 then R .ret zl_8 [.row [.nilSlice] 132 1,.row [.int i64 40] 85 1,.row
 [.slice 6 0 n false 0 0] 132 1,.row [.str s] 9 1,Blk.defd,alL LoopState.done (some Code.ret),.row o 136 2,.row (zl_5 s) 136 2,.row (zl_5 s)
 136 2]else bif bj s !=0 then R .ret zl_8 (zl_9 s o n)else bif o.length.beq (n*2)then bif (n+1).ble 9223372036854775807&&((n+1)*24).ble
 140737488355328 then bif bj s !=0 then R .ret zl_8 (zl_7 s o n)else R .normal zl_8 (zl_6 s o n)else False else False else bif bj s !=0 then R
 .ret zl_8 (zl_9 s o n)else bif o.length.beq (n*2)then bif (n+1).ble 9223372036854775807&&((n+1)*24).ble 140737488355328 then bif bj s !=0
 then R .ret zl_8 (zl_7 s o n)else R .normal zl_8 (zl_6 s o n)else False else False else R (.exit 0) zl_8 [.row [.nilSlice] 132 1,.row
 [.int i64 0] 85 1,.row [.slice 6 0 n false 0 0] 132 1,.row [.str s] 9 1,Blk.defd,alL LoopState.ready none,.row o 136 2]):=by kernel_rfl
abbrev IT:=Int×List UInt8
def aB:List IT→List V
 |[]=>[]
 |x::r=>.int .u8 x.1::.str x.2::aB r
theorem eQ:∀l:List IT,(aB l).length=l.length*2
 |[]=>rfl
 |x::r=>by simp only[aB,bi,eQ r];omega
theorem lX:∀(l:List IT) (x:IT),aB l++[.int .u8 x.1,.str x.2]=aB (l++[x])
 |[],x=>rfl
 |y::r,x=>by simp only[aB,List.cons_append,lX r x]
theorem fq(σ:List Nat):∀l:List IT,renL σ (aB l)=some (aB l)
 |[]=>rfl
 |x::r=>by simp only[aB,renL,renV,fq σ r]
def alF:Nat→List UInt8→List IT→List IT×Int
 |0,_,acc=>(acc,0)
 |k+1,s,acc=>if s=[]then(acc,0)else if bj s=0 then(if acc.length=64 then([],40)else alF k (cD s) (acc++[(bU s,av s)]))else([],bj s)
structure AL where
 s:List UInt8
 acc:List IT
def alSl:List IT→V
 |[]=>.nilSlice
 |h::t=>.slice 6 0 (h::t).length false 0 0
def alRw:List IT→St
 |[]=>[]
 |h::t=>[.row (aB (h::t)) 136 2]
def alV(_:AL):List V:=[.yield 5,.ptr 3 0]
def alJ(x:AL):St:=alM .nilSlice 0 (alSl x.acc) x.s .ready none (alRw x.acc)
def oK(x:AL):Bool:=decide (x.acc.length≤64)
def alMu(x:AL):Nat:=x.s.length
def uM(x:AL):Prop:=alF x.s.length x.s x.acc=([],0)
def uL(x:AL)(o:List V)(n:Nat):Prop:=∃h t,o=aB (h::t)∧n=(h::t).length∧alF x.s.length x.s x.acc=(h::t,0)
def alErr(x:AL)(e:Int):Prop:=e≠0∧alF x.s.length x.s x.acc=([],e)
def alOut:Asks AL:=fun x K=>
 (uM x→K (.exit 0) [.yield 5,.ptr 3 0] (alM .nilSlice 0 .nilSlice [] .ready none []))∧
 (∀o n,uL x o n→K (.exit 0) [.yield 5,.ptr 3 0] (alM .nilSlice 0 (.slice 6 0 n false 0 0) [] .ready none [.row o 136 2]))∧
 (∀e,alErr x e→K .ret [.yield 5,.ptr 3 0] [.row [.nilSlice] 132 1,.row [.int .i64 e] 85 1,.dead,.dead,.defd,alL .done (some .ret)])
theorem uK(σ:List Nat)(h0:σ[0]?=some 0)(h1:σ[1]?=some 1)(h2:σ[2]?=some 2)(h4:σ[4]?=some 4)(s:LoopState)(p:Option Code):FitB σ (alL s p) (alL s p):=by
 unfold alL rgLoopA;split
 ·refine .inr ⟨_,_,_,_,_,_,_,_,_,_,rfl,rfl,h4,FitT.of (fun t v hm=>?_)⟩;simp only[alT,List.mem_cons,Prod.mk.injEq,List.not_mem_nil,or_false]at hm;rcases hm with⟨rfl,rfl⟩|⟨rfl,rfl⟩|⟨rfl,rfl⟩
  ·exact⟨.ptr 0 0,by simp[renV,h0],rfl⟩
  ·exact⟨.ptr 1 0,by simp[renV,h1],rfl⟩
  ·exact⟨.ptr 2 0,by simp[renV,h2],rfl⟩
 ·exact .inl rfl
theorem na{c:List Nat}:∀i,i<6→([0,1,2,3,4,5]++c)[i]?=some i:=by
 intro i hi
 match i,hi with
 |0,_|1,_|2,_|3,_|4,_|5,_=>rfl
theorem qP(e:Int)(s:List UInt8)(l:LoopState)(p:Option Code)(g:St)(hg:g.length<5)(acc:List IT)(L:Nat)(hL:L=acc.length)(v6:V)(hv:v6=.slice (6+g.length) 0 L false 0 0)(rest:St)(hr:rest=g++[.row (aB acc) 136 2]):
  Fits 6 [.yield 5,.ptr 3 0] (alM .nilSlice e (.slice 6 0 acc.length false 0 0) s l p [.row (aB acc) 136 2]) [some (.yield 5),some (.ptr 3 0)] (alM .nilSlice e v6 s l p rest):=by
 subst hL hv hr;refine⟨[0,1,2,3,4,5]++[6+g.length],[.yield 5,.ptr 3 0],rfl,rfl,FitsM.of ?_,?_,na⟩
 ·refine⟨.inr ⟨_,.inl rfl,rfl⟩,.inr ⟨_,.inl rfl,rfl⟩,.inr ⟨_,.inl rfl,rfl⟩,.inr ⟨_,.inl rfl,rfl⟩,.inr ⟨_,.inl rfl,rfl⟩,.inr ⟨_,uK _ rfl rfl rfl rfl l p,rfl⟩,.inr ⟨.row (aB acc) 136 2,.inl (by simp only[renB,fq]),?_⟩,trivial⟩;unfold alM;rw[List.getElem?_append_right (by simp)];simp
 ·simp;omega
theorem al_fits0(e:Int)(s:List UInt8)(l:LoopState)(p:Option Code):Fits 6 [.yield 5,.ptr 3 0] (alM .nilSlice e .nilSlice s l p []) [some (.yield 5),some (.ptr 3 0)] (alM .nilSlice e .nilSlice s l p []):=by
 refine⟨[0,1,2,3,4,5]++[],[.yield 5,.ptr 3 0],rfl,rfl,FitsM.of ?_,by decide,na⟩;exact⟨.inr ⟨_,.inl rfl,rfl⟩,.inr ⟨_,.inl rfl,rfl⟩,.inr ⟨_,.inl rfl,rfl⟩,.inr ⟨_,.inl rfl,rfl⟩,.inr ⟨_,.inl rfl,rfl⟩,.inr ⟨_,uK _ rfl rfl rfl rfl l p,rfl⟩,trivial⟩
theorem qO(e:Int)(v6:V)(s:List UInt8)(rest:St):
  Fits 6 [.yield 5,.ptr 3 0] [.row [.nilSlice] 132 1,.row [.int .i64 e] 85 1,.dead,.dead,.defd,alL .done (some .ret)] [some (.yield 5),some (.ptr 3 0)] (alM .nilSlice e v6 s .done (some .ret) rest):=by
 refine⟨[0,1,2,3,4,5]++[],[.yield 5,.ptr 3 0],rfl,rfl,FitsM.of ?_,by decide,na⟩;exact⟨.inr ⟨_,.inl rfl,rfl⟩,.inr ⟨_,.inl rfl,rfl⟩,.inl rfl,.inl rfl,.inr ⟨_,.inl rfl,rfl⟩,.inr ⟨_,uK _ rfl rfl rfl rfl _ _,rfl⟩,trivial⟩
theorem gg{s:List UInt8}(h:s≠[]):(cD s).length<s.length:=by
 cases s with
 |nil=>exact absurd rfl h
 |cons b r=>
  unfold cD;split
  ·simp;omega
  ·simp
theorem qQ:∀(k:Nat) (s:List UInt8) (acc:List IT),s.length≤k→alF k s acc=alF s.length s acc
 |0,s,acc,h=>by
  have:s.length=0:=by omega
  rw[this]
 |k+1,s,acc,h=>by
  cases s with
  |nil=>simp[alF]
  |cons b r=>
   have hlt:=gg (s:=b::r) (by simp);simp only[bi,alF];split
   ·rfl
   ·split
    ·split
     ·rfl
     ·simp only[bi]at hlt h;rw[qQ k _ _ (by omega),qQ r.length _ _ (by omega)]
    ·rfl
 termination_by k=>k
theorem alF_step{s:List UInt8}(hs:s≠[])(h0:bj s=0){acc:List IT}(ha:acc.length≠64):alF s.length s acc=alF (cD s).length (cD s) (acc++[(bU s,av s)]):=by
 have hlt:=gg hs;cases hk:s.length with
 |zero=>rw[hk]at hlt;omega
 |succ k=>
  rw[hk]at hlt;simp only[alF];rw[if_neg hs,if_pos h0,if_neg ha,qQ k _ _ (by omega)]
theorem o5{s:List UInt8}(hs:s≠[])(h0:bj s≠0)(acc:List IT):alF s.length s acc=([],bj s):=by
 cases s with
 |nil=>exact absurd rfl hs
 |cons b r=>simp only[bi,alF];rw[if_neg hs,if_neg h0]
theorem alF_full{s:List UInt8}(hs:s≠[])(h0:bj s=0){acc:List IT}(ha:acc.length=64):alF s.length s acc=([],40):=by
 cases s with
 |nil=>exact absurd rfl hs
 |cons b r=>simp only[bi,alF];rw[if_neg hs,if_pos h0,if_pos ha]
theorem al_round(x:AL)(hx:oK x=true):al Qq TA 9 10 (ah 9) 188 2 [0,1] (alV x) (alJ x) (aD 6 oK alV alJ alMu alOut x):=by
 obtain⟨s,acc⟩:=x;have p1:acc.length≤64:=aN hx;have again:s≠[]→bj s=0→acc.length≠64→∀K,alOut ⟨s,acc⟩ K→alOut ⟨cD s,acc++[(bU s,av s)]⟩ K:=by
  intro hs h0 ha K hK;have hg:=alF_step hs h0 ha;refine⟨fun he=>hK.1 (hg.trans he),fun o n he=>hK.2.1 o n ?_,fun e he=>hK.2.2 e ⟨he.1,hg.trans he.2⟩⟩;obtain⟨h,t,e1,e2,e3⟩:=he;exact⟨h,t,e1,e2,hg.trans e3⟩
 have pre2:acc.length≠64→oK ⟨cD s,acc++[(bU s,av s)]⟩=true:=by
  intro h;simp only[oK,decide_eq_true_eq,bQ,bi,List.length_nil];omega
 cases acc with
 |nil=>
  show al Qq TA 9 10 (ah 9) 188 2 [0,1] [.yield 5,.ptr 3 0] (alM .nilSlice 0 .nilSlice s .ready none []) _;rw[al_round0];unfold zl_4 zl_3 zl_2 zl_1 zl_0;by_cases hs:s=[]
  ·have e1:(!s==[])=false:=by simp[hs]
   rw[e1,ak];subst hs;exact⟨_,_,fun K hK=>hK.1 rfl,al_fits0 0 [] _ _⟩
  ·have e1:(!s==[])=true:=by simp[hs]
   rw[e1,ae];by_cases h0:bj s=0
   ·have e2:(bj s==0)=true:=by simp[h0]
    have e3:(bj s !=0)=false:=by simp[h0]
    rw[e2,e3];simp only[ae,ak];refine⟨⟨cD s,[]++[(bU s,av s)]⟩,pre2 (by simp),?_,gg hs,again hs h0 (by simp)⟩;exact qP 0 (cD s) _ _ [_,_,_] (by simp) [(bU s,av s)] 1 rfl _ rfl _ rfl
   ·have e2:(bj s==0)=false:=by simp[h0]
    have e3:(bj s !=0)=true:=by simp[h0]
    rw[e2,e3];simp only[ae,ak];exact⟨_,_,fun K hK=>hK.2.2 _ ⟨h0,o5 hs h0 []⟩,qO _ _ _ _⟩
 |cons h t=>
  show al Qq TA 9 10 (ah 9) 188 2 [0,1] [.yield 5,.ptr 3 0] (alM .nilSlice 0 (.slice 6 0 (h::t).length false 0 0) s .ready none [.row (aB (h::t)) 136 2]) _;rw[al_round1];unfold zl_9 zl_8 zl_7 zl_6 zl_5;by_cases hs:s=[]
  ·have e1:(!s==[])=false:=by simp[hs]
   rw[e1,ak];subst hs;exact⟨_,_,fun K hK=>hK.2.1 _ _ ⟨h,t,rfl,rfl,rfl⟩,qP 0 [] _ _ [] (by simp) (h::t) _ rfl _ rfl _ rfl⟩
  ·have e1:(!s==[])=true:=by simp[hs]
   rw[e1,ae];by_cases h0:bj s=0
   ·have e2:(bj s==0)=true:=by simp[h0]
    have e3:(bj s !=0)=false:=by simp[h0]
    rw[e2,e3];simp only[ae,ak];by_cases ha:(h::t).length=64
    ·have e4:(((h::t).length:Int)==64)=true:=by rw[ha];rfl
     rw[e4,ae];exact⟨_,_,fun K hK=>hK.2.2 40 ⟨by omega,alF_full hs h0 ha⟩,qO _ _ _ _⟩
    ·have e4:(((h::t).length:Int)==64)=false:=by
      cases hb:(((h::t).length:Int)==64)with
      |false=>rfl
      |true=>exact absurd (by have:=beq_iff_eq.1 hb;omega) ha
     rw[e4,ak];have e5:(aB (h::t)).length.beq ((h::t).length*2)=true:=by rw[eQ];exact a9 _
     have e6:(((h::t).length+1).ble 9223372036854775807&&(((h::t).length+1)*24).ble 140737488355328)=true:=by
      rw[ad];exact⟨ag (by omega),ag (by omega)⟩
     rw[e5,e6,ae,ae];have e7:aB (h::t)++[V.int .u8 (bU s),V.str (av s)]=aB (h::(t++[(bU s,av s)])):=lX (h::t) (bU s,av s);rw[e7];refine⟨⟨cD s,(h::t)++[(bU s,av s)]⟩,pre2 ha,?_,gg hs,again hs h0 ha⟩;exact qP 0 (cD s) _ _ [_,_,_,_] (by simp) (h::(t++[(bU s,av s)])) ((h::t).length+1) (by simp) _ rfl _ rfl
   ·have e2:(bj s==0)=false:=by simp[h0]
    have e3:(bj s !=0)=true:=by simp[h0]
    rw[e2,e3];simp only[ae,ak];exact⟨_,_,fun K hK=>hK.2.2 _ ⟨h0,o5 hs h0 (h::t)⟩,qO _ _ _ _⟩
def alDec:List (Option V)→St→Option AL
 |[some (.yield 5),some (.ptr 3 0)],(.row [.nilSlice] _ _)::(.row [.int .i64 0] _ _)::(.row [.nilSlice] _ _)::(.row [.str s] _ _)::_=>some ⟨s,[]⟩
 |_,_=>none
def lk48:Nat→Trans→Trans:=ba 2 (bK 6 (szOf Qq 188) [0,1] alDec oK alV alJ alOut) (ah 9)
theorem al_loop{f:Fr}{st:St}{Q:Exit→Fr→St→Prop}(h:bK 6 (szOf Qq 188) [0,1] alDec oK alV alJ alOut f st Q):CodeSatW Qq none 6 (.loop (cO Qq 188 2)) f st Q:=
 bc (P:=Qq) (T:=TA) (k:=6) (lim:=9) (n:=10) (g:=188) (p0:=2) (lk:=ah 9) aA TA_ok (bf 9 _ _) alMu al_round h
theorem lk48_ok:aQ Qq 6 lk48 188:=by
 unfold lk48;exact bB (aY 9 6 188) (by kernel_rfl) fun f st Q h=>al_loop h
def TB:Tab:=⟨noT,noL,cI (aT 9) 188 6 lk48⟩
theorem TB_ok:TabOk3 Qq TB:=⟨aJ,aK,bq (au 9) lk48_ok⟩
theorem all_tree(s:List UInt8)(R:V→St→Prop):runM Qq TB 9 10 87 [.str s] R=
  (
 Fits 6 [V.yield 5,.ptr 3 0] [.row [.nilSlice] 132 1,.row [.int i64 0] 85 1,.row [.nilSlice] 132 1,.row [.str s] 9 1,Blk.defd,alL
 LoopState.ready none] [some (V.yield 5),some (.ptr 3 0)] [.row [.nilSlice] 132 1,.row [.int i64 0] 85 1,.row [.nilSlice] 132 1,.row [.str s]
 9 1,Blk.defd,Blk.loop LoopState.ready none 26 ((((Tr.lf.nd (some (.str s)) Tr.lf).nd (some (.ptr 1 0)) Tr.lf).nd none Tr.lf).nd (some (.str s)) (((Tr.lf.nd (some
 (V.func (Fn.func 188) [] [.ptr 3 0])) Tr.lf).nd (some (.ptr 2 0)) Tr.lf).nd (some (.ptr 0 0)) Tr.lf)) {toList:=[9,10]} alAs alBd 4]∧(uM {s:=s,acc:=[]}
 →R (.tuple [.nilSlice,.int i64 0]) [.row [.nilSlice] 132 1,.row [.int i64 0] 85 1,.row [.nilSlice] 132 1,.row [.str []] 9 1,
 .dead,.dead])∧(∀(o:List V) (n:Nat),uL {s:=s,acc:=[]} o n→R (.tuple [.slice 6 0 n false 0 0,.int i64 0]) [.row [.slice 6 0 n
 false 0 0] 132 1,.row [.int i64 0] 85 1,.row [.slice 6 0 n false 0 0] 132 1,.row [.str []] 9 1,.dead,.dead,.row o 136 2])∧∀(e:
 Int),alErr {s:=s,acc:=[]} e→R (.tuple [.nilSlice,.int i64 e]) [.row [.nilSlice] 132 1,.row [.int i64 e] 85 1,.dead,.dead,
 .dead,.dead]):=by kernel_rfl
theorem al_enter(s:List UInt8)(DT2:Tr)(h2:DT2.get 2=some (.ptr 0 0))(h3:DT2.get 3=some (.ptr 1 0))(h4:DT2.get 4=some (.ptr 2 0)):
  Fits 6 [.yield 5,.ptr 3 0] (alM .nilSlice 0 .nilSlice s .ready none []) [some (.yield 5),some (.ptr 3 0)]
   [.row [.nilSlice] 132 1,.row [.int .i64 0] 85 1,.row [.nilSlice] 132 1,.row [.str s] 9 1,.defd,.loop .ready none 26 DT2 alPs alAs alBd 4]:=by
 have hL:alL .ready none=.loop .ready none 26 (kV .lf alT) alPs alAs alBd 4:=by kernel_rfl
 refine⟨[0,1,2,3,4,5]++[],[.yield 5,.ptr 3 0],rfl,rfl,FitsM.of ?_,by decide,na⟩;refine⟨.inr ⟨_,.inl rfl,rfl⟩,.inr ⟨_,.inl rfl,rfl⟩,.inr ⟨_,.inl rfl,rfl⟩,.inr ⟨_,.inl rfl,rfl⟩,.inr ⟨_,.inl rfl,rfl⟩,.inr ⟨_,?_,rfl⟩,trivial⟩;rw[hL];refine .inr ⟨_,_,_,_,_,_,_,_,_,_,rfl,rfl,rfl,FitT.of fun t v hm=>?_⟩;simp only[alT,List.mem_cons,Prod.mk.injEq,List.not_mem_nil,or_false]at hm;rcases hm with⟨rfl,rfl⟩|⟨rfl,rfl⟩|⟨rfl,rfl⟩
 ·exact⟨_,rfl,h2⟩
 ·exact⟨_,rfl,h3⟩
 ·exact⟨_,rfl,h4⟩
def allI(s:List UInt8):List IT:=(alF s.length s []).1
def allE(s:List UInt8):Int:=(alF s.length s []).2
theorem all_eq(s:List UInt8):alF s.length s []=(allI s,allE s):=rfl
def outA(s:List UInt8):V×St:=match allI s with
 |[]=>(.tuple [.nilSlice,.int .i64 (allE s)],[])
 |h::t=>(.tuple [.slice 0 0 (h::t).length false 0 0,.int .i64 (allE s)],[.row (aB (h::t)) 136 2])
theorem all_sat(s:List UInt8):FnSat Qq 87 [.str s] [] (Is (outA s)):=by
 refine FnSat.fits (dX (lim:=9) (n:=10) aA TB_ok ?_);rw[all_tree];have nilRes:∀(e:Int) (st:St),allI s=[]→allE s=e→Fits 0 [(outA s).1] (outA s).2 [some (.tuple [.nilSlice,.int .i64 e])] st:=by
  intro e st h1 h2;have e1:outA s=(.tuple [.nilSlice,.int .i64 e],[]):=by unfold outA;rw[h1,h2]
  rw[e1];exact⟨[],[.tuple [.nilSlice,.int .i64 e]],rfl,rfl,FitsM.of trivial,by simp,fun i hi=>by omega⟩
 refine⟨al_enter s _ rfl rfl rfl,?_,?_,?_⟩
 ·intro h;have h:alF s.length s []=([],0):=h;exact nilRes 0 _ (by unfold allI;rw[h]) (by unfold allE;rw[h])
 ·rintro o n ⟨h0,t,rfl,rfl,h⟩;have h:alF s.length s []=(h0::t,0):=h;have h1:allI s=h0::t:=by unfold allI;rw[h]
  have h2:allE s=0:=by unfold allE;rw[h]
  have e1:outA s=(.tuple [.slice 0 0 (h0::t).length false 0 0,.int .i64 0],[.row (aB (h0::t)) 136 2]):=by unfold outA;rw[h1,h2]
  show Fits 0 [(outA s).1] (outA s).2 _ _;rw[e1];exact⟨[6],[.tuple [.slice 6 0 (h0::t).length false 0 0,.int .i64 0]],rfl,rfl,FitsM.of ⟨.inr ⟨.row (aB (h0::t)) 136 2,.inl (by simp only[renB,fq]),rfl⟩,trivial⟩,by simp,fun i hi=>by omega⟩
 ·rintro e ⟨_,h⟩;have h:alF s.length s []=([],e):=h;exact nilRes e _ (by unfold allI;rw[h]) (by unfold allE;rw[h])
def allG(AE:List UInt8→Int)(AN:List UInt8→Nat)(AC:List UInt8→List V):List V→Option (Qx)
 |[.str s]=>some [(Nat.beq (AN s) 0,(.tuple [.nilSlice,.int .i64 (AE s)],[])),(true,(.tuple [.slice 0 0 (AN s) false 0 0,.int .i64 (AE s)],[.row (AC s) 136 2]))]
 |_=>none
def allN(s:List UInt8):Nat:=(allI s).length
def allC(s:List UInt8):List V:=aB (allI s)
theorem allG_ok(args:List V)(l:Qx)(o:V×St)(h:allG allE allN allC args=some l)(ho:aL l=some o):FnSat Qq 87 args [] (Is o):=by
 unfold allG at h;split at h
 ·rename_i s;cases h;have:o=outA s:=by
   unfold outA;unfold allN allC at ho;cases hI:allI s with
   |nil=>
    rw[hI]at ho;have e:Nat.beq ([]:List IT).length 0=true:=rfl;simp only[aL,e,ae,af]at ho;exact ho.symm
   |cons a t=>
    rw[hI]at ho;have e:Nat.beq (a::t).length 0=false:=rfl;simp only[aL,e,ae,ak,af]at ho;exact ho.symm
  rw[this];exact all_sat s
 ·cases h
def F0:Tab:=⟨addP noT 147 getF2,noL,aT 9⟩
theorem F0_ok:TabOk3 Qq F0:=⟨bg aJ get2_ok,aK,au 9⟩
theorem only_tree(s:List UInt8)(t:Int)(R:V→Prop):runW Qq F0 9 10 86 [.str s,.int .u8 t] R=
  (
 bif bj s==0 then bif cD s==[]then R (.tuple [.str (av s),.bool (bU s==t)])else R (.tuple [.str (av s),.bool false])else R (.tuple [.str
 (av s),.bool false])):=by kernel_rfl
def fe(s:List UInt8)(t:Int):Bool:=(bj s==0)&&((cD s==[])&&(bU s==t))
def onlyP:List V→Option V
 |[.str s,.int .u8 t]=>some (.tuple [.str (av s),.bool (fe s t)])
 |_=>none
theorem only_ok(args:List V)(v:V)(h:onlyP args=some v):FnSat Qq 86 args [] (Is (v,[])):=by
 unfold onlyP at h;split at h
 ·rename_i s t;cases h;refine ax (lim:=9) (n:=10) aA F0_ok rfl rfl ?_;rw[only_tree];unfold fe;refine ac (fun h=>?_) (fun h=>by rw[h];rfl);rw[h];refine ac (fun h=>?_) (fun h=>by rw[h];rfl);rw[h];rfl
 ·cases h
/-- Whether cells are so many things. -/
def okLs(n:Nat)(ds:List V):Bool:=@decide (∃L:List IT,ds=aB L∧n=L.length∧L.length≤64) (Classical.propDecidable _)
theorem rV{n:Nat}{ds:List V}(h:okLs n ds=true):∃L:List IT,ds=aB L∧n=L.length∧L.length≤64:=by unfold okLs at h;simpa using h
theorem okLs_mk{L:List IT}(h:L.length≤64):okLs L.length (aB L)=true:=by unfold okLs;simp only[decide_eq_true_eq];exact⟨L,rfl,rfl,h⟩
def dy:List V→List IT
 |.int _ t::.str s::r=>(t,s)::dy r
 |_=>[]
theorem cP:∀L:List IT,dy (aB L)=L
 |[]=>rfl
 |x::r=>by simp only[aB,dy,cP r]
theorem ik{L r:List IT}{i:Nat}{c:IT}(h:L.drop i=c::r):(aB L).getD (0+i*2+0) (.bool false)=.int .u8 c.1∧(aB L).getD (0+i*2+1) (.bool false)=.str c.2∧(0+i*2+2).ble (aB L).length=true:=by
 have key:∀(L:List IT) (i:Nat),(aB L).drop (i*2)=aB (L.drop i):=by
  intro L
  induction L with
  |nil=>intro i;simp[aB]
  |cons x r ih=>
   intro i;cases i with
   |zero=>simp
   |succ i=>rw[show(i+1)*2=i*2+2 by omega];simpa[aB]using ih i
 have k:=key L i;rw[h]at k;have h3:=(bn h).2.2;have at0:∀j,(aB L).getD (0+i*2+j) (.bool false)=((aB L).drop (i*2)).getD j (.bool false):=fun j=>by
  rw[bX,bX,List.getElem?_drop];congr 2;omega
 refine⟨by rw[at0,k];rfl,by rw[at0,k];rfl,ag ?_⟩;rw[eQ];omega
def zm_0:=[V.str [],V.str [],V.nilSlice,V.int i64 0,V.int i64 0,V.bool false]
theorem de_round0(k g:List UInt8)(f u:Int)(ca:Bool)(ds:List V)(n:Nat)(i:Int)(R:Qz):al Qq F0 9 10 (ah 9) 42 262138 [2,3,21,127,128,129] [.ptr 0 0,.int .i64 0,.ptr 2 0,.slice 1 0 n false 0 0,.int .i64 n,.int .i64 i] [.row [.str [],.str [],.nilSlice,.int .i64 0,.int .i64 0,.bool false] 32 6,.row ds 136 2,.row [.str k,.str g,.nilSlice,.int .i64 f,.int .i64 u,.bool ca] 32 6] R=
 (
 bif decide (i<(↑n:Int))then bif decide (0≤i)&&decide (i<(↑n:Int))then bif (0+i.toNat*2+2).ble ds.length then bif ao u8 (ds.getD
 (0+i.toNat*2+0) (.bool false))then bif ar (ds.getD (0+i.toNat*2+1) (.bool false))then bif (aq (ds.getD (0+i.toNat*2+0) (.bool
 false)))!=130 then R .ret [some (.ptr 0 0),some (.int i64 4),some (.ptr 2 0),some (.slice 1 0 n false 0 0),some (.int i64 (↑n:
 Int)),some (.int i64 i)] [.row zm_0 32 6,.row ds 136 2,.row [.str k,.str g,.nilSlice,.int i64 f,.int i64 u,.bool
 ca] 32 6,.row [.int u8 (aq (ds.getD (0+i.toNat*2+0) (.bool false))),.str (ab (ds.getD (0+i.toNat*2+1) (.bool false)))] 136
 2]else R .normal [some (.ptr 0 0),some (.int i64 0),some (.ptr 2 0),some (.slice 1 0 n false 0 0),some (.int i64 (↑n:Int)),some
 (.int i64 (i64.wrap (i+1)))] [.row zm_0 32 6,.row ds 136 2,.row [.str k,.str g,.slice 5 0 1 false 0 0,.int i64 f,
 .int i64 u,.bool ca] 32 6,.row [.int u8 (aq (ds.getD (0+i.toNat*2+0) (.bool false))),.str (ab (ds.getD (0+i.toNat*2
 +1) (.bool false)))] 136 2,.row [.str ((ab (ds.getD (0+i.toNat*2+1) (.bool false))))] 9 1,.row [.str ((ab (ds.getD (0+i.toNat*2+
 1) (.bool false))))] 9 1]else False else False else False else False else R (.exit 2) [some (.ptr 0 0),some (.int i64 0),some (.ptr 2 0),some
 (.slice 1 0 n false 0 0),some (.int i64 (↑n:Int)),some (.int i64 i)] [.row zm_0 32 6,.row ds 136 2,.row [.str k,.str g,
 .nilSlice,.int i64 f,.int i64 u,.bool ca] 32 6]):=by kernel_rfl
def zm_1:=[V.str [],V.str [],V.nilSlice,V.int i64 0,V.int i64 0,V.bool false]
theorem de_round1(k g:List UInt8)(f u:Int)(ca:Bool)(ds o:List V)(n m:Nat)(i:Int)(R:Qz):al Qq F0 9 10 (ah 9) 42 262138 [2,3,21,127,128,129] [.ptr 0 0,.int .i64 0,.ptr 2 0,.slice 1 0 n false 0 0,.int .i64 n,.int .i64 i] [.row [.str [],.str [],.nilSlice,.int .i64 0,.int .i64 0,.bool false] 32 6,.row ds 136 2,.row [.str k,.str g,.slice 3 0 m false 0 0,.int .i64 f,.int .i64 u,.bool ca] 32 6,.row o 9 1] R=
 (
 bif decide (i<(↑n:Int))then bif decide (0≤i)&&decide (i<(↑n:Int))then bif (0+i.toNat*2+2).ble ds.length then bif ao u8 (ds.getD
 (0+i.toNat*2+0) (.bool false))then bif ar (ds.getD (0+i.toNat*2+1) (.bool false))then bif (aq (ds.getD (0+i.toNat*2+0) (.bool
 false)))!=130 then R .ret [some (.ptr 0 0),some (.int i64 4),some (.ptr 2 0),some (.slice 1 0 n false 0 0),some (.int i64 (↑n:
 Int)),some (.int i64 i)] [.row zm_1 32 6,.row ds 136 2,.row [.str k,.str g,.slice 3 0 m false 0 0,.int i64 f,.int
 i64 u,.bool ca] 32 6,.row o 9 1,.row [.int u8 (aq (ds.getD (0+i.toNat*2+0) (.bool false))),.str (ab (ds.getD (0+
 i.toNat*2+1) (.bool false)))] 136 2]else bif o.length.beq (m*1)then bif (m+1).ble 9223372036854775807&&((m+1)*16).ble 140737488355328 then R
 .normal [some (.ptr 0 0),some (.int i64 0),some (.ptr 2 0),some (.slice 1 0 n false 0 0),some (.int i64 (↑n:Int)),some (.int
 i64 (i64.wrap (i+1)))] [.row zm_1 32 6,.row ds 136 2,.row [.str k,.str g,.slice 6 0 (m+1) false 0 0,.int i64 f,
 .int i64 u,.bool ca] 32 6,.dead,.row [.int u8 (aq (ds.getD (0+i.toNat*2+0) (.bool false))),.str (ab (ds.getD (0+
 i.toNat*2+1) (.bool false)))] 136 2,.row [.str ((ab (ds.getD (0+i.toNat*2+1) (.bool false))))] 9 1,.row (o++[V.str ((ab (ds.getD
 (0+i.toNat*2+1) (V.bool false))))]) 9 1]else False else False else False else False else False else False else R (.exit 2) [some (.ptr 0 0),some
 (.int i64 0),some (.ptr 2 0),some (.slice 1 0 n false 0 0),some (.int i64 (↑n:Int)),some (.int i64 i)] [.row zm_1 32 6,
 .row ds 136 2,.row [.str k,.str g,.slice 3 0 m false 0 0,.int i64 f,.int i64 u,.bool ca] 32 6,.row o 9 1]):=by kernel_rfl
structure DE where
 k:List UInt8
 g:List UInt8
 f:Int
 u:Int
 ca:Bool
 ds:List V
 n:Nat
 i:Nat
def deZ:Blk:=.row [.str [],.str [],.nilSlice,.int .i64 0,.int .i64 0,.bool false] 32 6
def deSl(b:Nat):Nat→V
 |0=>.nilSlice
 |i+1=>.slice b 0 (i+1) false 0 0
def deNm(ds:List V)(i:Nat):List (List UInt8):=((dy ds).take i).map (·.2)
def deRw(ds:List V):Nat→St
 |0=>[]
 |i+1=>[.row (strs (deNm ds (i+1))) 9 1]
def deV(x:DE):List V:=[.ptr 0 0,.int .i64 0,.ptr 2 0,.slice 1 0 x.n false 0 0,.int .i64 x.n,.int .i64 x.i]
def deJ(x:DE):St:=deZ::.row x.ds 136 2::.row [.str x.k,.str x.g,deSl 3 x.i,.int .i64 x.f,.int .i64 x.u,.bool x.ca] 32 6::deRw x.ds x.i
def oE(x:DE):Bool:=okLs x.n x.ds&&(Nat.ble x.i x.n&&((dy x.ds).take x.i).all fun y=>y.1==130)
def deMu(x:DE):Nat:=x.n-x.i
def deDec:List (Option V)→St→Option DE
 |[some (.ptr 0 0),some (.int .i64 0),some (.ptr p 0),some (.slice b 0 n false 0 0),some (.int .i64 _),some (.int .i64 0)],st=>match st[b]?,st[p]? with
  |some (.row ds _ _),some (.row [.str k,.str g,.nilSlice,.int .i64 f,.int .i64 u,.bool ca] _ _)=>some ⟨k,g,f,u,ca,ds,n,0⟩
  |_,_=>none
 |_,_=>none
def jA(ds:List V):Bool:=(dy ds).all fun y=>y.1==130
def qA(b:Bool)(k g:List UInt8)(f u:Int)(ca:Bool)(ds:List V)(n:Nat)(K:Exit→List V→St→Prop):Prop:=
 bif b then
  (n=0→K (.exit 2) [.ptr 0 0,.int .i64 0,.ptr 2 0,.slice 1 0 n false 0 0,.int .i64 n,.int .i64 n] [deZ,.dead,.row [.str k,.str g,.nilSlice,.int .i64 f,.int .i64 u,.bool ca] 32 6])∧
  (∀j,n=j+1→K (.exit 2) [.ptr 0 0,.int .i64 0,.ptr 2 0,.slice 1 0 n false 0 0,.int .i64 n,.int .i64 n] [deZ,.dead,.row [.str k,.str g,.slice 3 0 (j+1) false 0 0,.int .i64 f,.int .i64 u,.bool ca] 32 6,.row (strs ((dy ds).map (·.2))) 9 1])
 else ∀i:Nat,K .ret [.ptr 0 0,.int .i64 4,.ptr 2 0,.slice 1 0 n false 0 0,.int .i64 n,.int .i64 i] [deZ,.dead,.dead]
def deOut:Asks DE:=fun x K=>qA (jA x.ds) x.k x.g x.f x.u x.ca x.ds x.n K
theorem de_fits0d(k g:List UInt8)(f u:Int)(ca:Bool)(n:Nat)(e:Int)(i:Int)(st:St)(h0:st[0]?=some deZ)(h2:st[2]?=some (.row [.str k,.str g,.nilSlice,.int .i64 f,.int .i64 u,.bool ca] 32 6)):
  Fits 0 [.ptr 0 0,.int .i64 e,.ptr 2 0,.slice 1 0 n false 0 0,.int .i64 n,.int .i64 i] [deZ,.dead,.row [.str k,.str g,.nilSlice,.int .i64 f,.int .i64 u,.bool ca] 32 6] [some (.ptr 0 0),some (.int .i64 e),some (.ptr 2 0),some (.slice 1 0 n false 0 0),some (.int .i64 n),some (.int .i64 i)] st:=
 ⟨[0,1,2],[.ptr 0 0,.int .i64 e,.ptr 2 0,.slice 1 0 n false 0 0,.int .i64 n,.int .i64 i],rfl,rfl,FitsM.of ⟨.inr ⟨_,.inl rfl,h0⟩,.inl rfl,.inr ⟨_,.inl rfl,h2⟩,trivial⟩,by decide,fun i hi=>by omega⟩
theorem de_fitsR(n:Nat)(e:Int)(i:Int)(st:St)(h0:st[0]?=some deZ):
  Fits 0 [.ptr 0 0,.int .i64 e,.ptr 2 0,.slice 1 0 n false 0 0,.int .i64 n,.int .i64 i] [deZ,.dead,.dead] [some (.ptr 0 0),some (.int .i64 e),some (.ptr 2 0),some (.slice 1 0 n false 0 0),some (.int .i64 n),some (.int .i64 i)] st:=
 ⟨[0,1,2],[.ptr 0 0,.int .i64 e,.ptr 2 0,.slice 1 0 n false 0 0,.int .i64 n,.int .i64 i],rfl,rfl,FitsM.of ⟨.inr ⟨_,.inl rfl,h0⟩,.inl rfl,.inl rfl,trivial⟩,by decide,fun i hi=>by omega⟩
theorem de_fits1(k g:List UInt8)(f u:Int)(ca:Bool)(n m:Nat)(i:Int)(ds:List V)(hf:aM ds=true)(o:List (List UInt8))(b:Nat)(hb:3≤b)(st:St)(h0:st[0]?=some deZ)(h1:st[1]?=some (.row ds 136 2))(h2:st[2]?=some (.row [.str k,.str g,.slice b 0 m false 0 0,.int .i64 f,.int .i64 u,.bool ca] 32 6))(h3:st[b]?=some (.row (strs o) 9 1)):
  Fits 0 [.ptr 0 0,.int .i64 0,.ptr 2 0,.slice 1 0 n false 0 0,.int .i64 n,.int .i64 i] [deZ,.row ds 136 2,.row [.str k,.str g,.slice 3 0 m false 0 0,.int .i64 f,.int .i64 u,.bool ca] 32 6,.row (strs o) 9 1] [some (.ptr 0 0),some (.int .i64 0),some (.ptr 2 0),some (.slice 1 0 n false 0 0),some (.int .i64 n),some (.int .i64 i)] st:=
 ⟨[0,1,2,b],[.ptr 0 0,.int .i64 0,.ptr 2 0,.slice 1 0 n false 0 0,.int .i64 n,.int .i64 i],rfl,rfl,FitsM.of ⟨.inr ⟨_,.inl rfl,h0⟩,.inr ⟨.row ds 136 2,.inl (by simp only[renB,aC _ hf]),h1⟩,.inr ⟨_,.inl rfl,h2⟩,.inr ⟨.row (strs o) 9 1,.inl (by simp only[renB,aC _ (br o)]),h3⟩,trivial⟩,by simp;omega,fun i hi=>by omega⟩
theorem de_fits1d(k g:List UInt8)(f u:Int)(ca:Bool)(n m:Nat)(i:Int)(o:List (List UInt8))(b:Nat)(hb:3≤b)(st:St)(h0:st[0]?=some deZ)(h2:st[2]?=some (.row [.str k,.str g,.slice b 0 m false 0 0,.int .i64 f,.int .i64 u,.bool ca] 32 6))(h3:st[b]?=some (.row (strs o) 9 1)):
  Fits 0 [.ptr 0 0,.int .i64 0,.ptr 2 0,.slice 1 0 n false 0 0,.int .i64 n,.int .i64 i] [deZ,.dead,.row [.str k,.str g,.slice 3 0 m false 0 0,.int .i64 f,.int .i64 u,.bool ca] 32 6,.row (strs o) 9 1] [some (.ptr 0 0),some (.int .i64 0),some (.ptr 2 0),some (.slice 1 0 n false 0 0),some (.int .i64 n),some (.int .i64 i)] st:=
 ⟨[0,1,2,b],[.ptr 0 0,.int .i64 0,.ptr 2 0,.slice 1 0 n false 0 0,.int .i64 n,.int .i64 i],rfl,rfl,FitsM.of ⟨.inr ⟨_,.inl rfl,h0⟩,.inl rfl,.inr ⟨_,.inl rfl,h2⟩,.inr ⟨.row (strs o) 9 1,.inl (by simp only[renB,aC _ (br o)]),h3⟩,trivial⟩,by simp;omega,fun i hi=>by omega⟩
theorem fB:∀L:List IT,aM (aB L)=true
 |[]=>rfl
 |x::r=>by simp only[aB,aM,V.flat,fB r,bv]
theorem de_roundOk(x:DE)(hx:oE x=true):al Qq F0 9 10 (ah 9) 42 262138 [2,3,21,127,128,129] (deV x) (deJ x) (aD 0 oE deV deJ deMu deOut x):=by
 obtain⟨k,g,f,u,ca,ds,n,i⟩:=x;unfold oE at hx;simp only[ad]at hx;have hx1:okLs n ds=true:=hx.1;have p1:i≤n:=aw hx.2.1;obtain⟨L,rfl,rfl,p2⟩:=rV hx1;have hx3:(L.take i).all (fun y=>y.1==130)=true:=by have:=hx.2.2;simp only[cP]at this;exact this
 have hfl:=fB L;have q2:decide ((0:Int)≤(i:Int))=true:=am (by omega);have q3:i64.wrap ((i:Int)+1)=((i+1:Nat):Int):=by rw[IntWalk.i64_in _ ⟨by omega,by omega⟩];omega
 have nm:∀j,deNm (aB L) j=(L.take j).map (·.2):=fun j=>by unfold deNm;rw[cP]
 have all:L.drop i=[]→jA (aB L)=true:=fun h=>by
  have:=bY h p1;unfold jA;rw[cP];rw[cz (by omega)]at hx3;exact hx3
 have bad:∀c r,L.drop i=c::r→c.1≠130→jA (aB L)=false:=fun c r h hc=>by
  unfold jA;rw[cP];have hm:=List.mem_of_getElem? (bn h).1;cases hb:L.all (fun y=>y.1==130)with
  |false=>rfl
  |true=>exact absurd (beq_iff_eq.1 (List.all_eq_true.1 hb c hm)) hc
 have pre2:∀c r,L.drop i=c::r→c.1=130→oE ⟨k,g,f,u,ca,aB L,L.length,i+1⟩=true:=fun c r h hc=>by
  obtain⟨e1,_,e3⟩:=bn h;unfold oE;simp only[ad,cP];refine⟨hx1,ag (by omega),?_⟩;rw[List.take_add_one,e1,List.all_append,hx3,aH];simp[hc]
 cases i with
 |zero=>
  show al Qq F0 9 10 (ah 9) 42 262138 [2,3,21,127,128,129] [.ptr 0 0,.int .i64 0,.ptr 2 0,.slice 1 0 L.length false 0 0,.int .i64 L.length,.int .i64 ((0:Nat):Int)] [.row [.str [],.str [],.nilSlice,.int .i64 0,.int .i64 0,.bool false] 32 6,.row (aB L) 136 2,.row [.str k,.str g,.nilSlice,.int .i64 f,.int .i64 u,.bool ca] 32 6] _;rw[de_round0];unfold zm_0;cases hd:L.drop 0 with
  |nil=>
   have hi:=bY hd p1;have q1:decide (((0:Nat):Int)<(L.length:Int))=false:=bH (by omega);rw[q1,ak];refine⟨_,_,fun K hK=>?_,de_fits0d k g f u ca L.length 0 ((0:Nat):Int) _ rfl rfl⟩;have hK:qA (jA (aB L)) k g f u ca (aB L) L.length K:=hK;rw[all hd]at hK;have:=hK.1 hi.symm;rw[show(L.length:Int)=((0:Nat):Int) by omega]at this ⊢;exact this
  |cons c r=>
   obtain⟨e1,e2,e3⟩:=bn hd;obtain⟨e4,e5,e6⟩:=ik hd;have q1:decide (((0:Nat):Int)<(L.length:Int))=true:=am (by omega);simp only[q1,q2,bp,e4,e5,e6,ar,ab,ao,aq,decide_true,ae,Bool.and_true,q3];refine ac (fun h=>?_) (fun h=>?_)
   ·have h:c.1≠130:=by simpa using h
    refine⟨_,_,fun K hK=>?_,de_fitsR L.length 4 ((0:Nat):Int) _ rfl⟩;have hK:qA (jA (aB L)) k g f u ca (aB L) L.length K:=hK;rw[bad c r hd h]at hK;exact hK 0
   ·have h:c.1=130:=by simpa using h
    refine⟨⟨k,g,f,u,ca,aB L,L.length,0+1⟩,pre2 c r hd h,?_,by simp only[deMu];omega,fun K hK=>hK⟩;show Fits 0 [.ptr 0 0,.int .i64 0,.ptr 2 0,.slice 1 0 L.length false 0 0,.int .i64 L.length,.int .i64 ((0+1:Nat):Int)] [deZ,.row (aB L) 136 2,.row [.str k,.str g,.slice 3 0 (0+1) false 0 0,.int .i64 f,.int .i64 u,.bool ca] 32 6,.row (strs (deNm (aB L) (0+1))) 9 1] _ _;rw[nm,List.take_add_one,e1];exact de_fits1 k g f u ca L.length 1 _ _ hfl [c.2] 5 (by omega) _ rfl rfl rfl rfl
 |succ j=>
  show al Qq F0 9 10 (ah 9) 42 262138 [2,3,21,127,128,129] [.ptr 0 0,.int .i64 0,.ptr 2 0,.slice 1 0 L.length false 0 0,.int .i64 L.length,.int .i64 ((j+1:Nat):Int)] [.row [.str [],.str [],.nilSlice,.int .i64 0,.int .i64 0,.bool false] 32 6,.row (aB L) 136 2,.row [.str k,.str g,.slice 3 0 (j+1) false 0 0,.int .i64 f,.int .i64 u,.bool ca] 32 6,.row (strs (deNm (aB L) (j+1))) 9 1] _;rw[de_round1,nm];unfold zm_1;cases hd:L.drop (j+1)with
  |nil=>
   have hi:=bY hd p1;have q1:decide (((j+1:Nat):Int)<(L.length:Int))=false:=bH (by omega);rw[q1,ak];refine⟨_,_,fun K hK=>?_,de_fits1d k g f u ca L.length (j+1) ((j+1:Nat):Int) ((L.take (j+1)).map (·.2)) 3 (Nat.le_refl _) _ rfl rfl rfl⟩;have hK:qA (jA (aB L)) k g f u ca (aB L) L.length K:=hK;rw[all hd]at hK;have:=hK.2 j hi.symm;rw[cP]at this;rw[cz (by omega)];rw[show(L.length:Int)=((j+1:Nat):Int) by omega]at this ⊢;exact this
  |cons c r=>
   obtain⟨e1,e2,e3⟩:=bn hd;obtain⟨e4,e5,e6⟩:=ik hd;have q1:decide (((j+1:Nat):Int)<(L.length:Int))=true:=am (by omega);have q5:(strs ((L.take (j+1)).map (·.2))).length.beq ((j+1)*1)=true:=by
    rw[aE,cg,List.length_take,Nat.mul_one,Nat.min_eq_left (by omega)];exact a9 _
   have q6:((j+1+1).ble 9223372036854775807&&((j+1+1)*16).ble 140737488355328)=true:=by
    rw[ad];exact⟨ag (by omega),ag (by omega)⟩
   simp only[q1,q2,bp,e4,e5,e6,ar,ab,ao,aq,decide_true,ae,Bool.and_true,q3,q5,q6];refine ac (fun h=>?_) (fun h=>?_)
   ·have h:c.1≠130:=by simpa using h
    refine⟨_,_,fun K hK=>?_,de_fitsR L.length 4 ((j+1:Nat):Int) _ rfl⟩;have hK:qA (jA (aB L)) k g f u ca (aB L) L.length K:=hK;rw[bad c r hd h]at hK;exact hK (j+1)
   ·have h:c.1=130:=by simpa using h
    refine⟨⟨k,g,f,u,ca,aB L,L.length,j+1+1⟩,pre2 c r hd h,?_,by simp only[deMu];omega,fun K hK=>hK⟩;show Fits 0 [.ptr 0 0,.int .i64 0,.ptr 2 0,.slice 1 0 L.length false 0 0,.int .i64 L.length,.int .i64 ((j+1+1:Nat):Int)] [deZ,.row (aB L) 136 2,.row [.str k,.str g,.slice 3 0 (j+1+1) false 0 0,.int .i64 f,.int .i64 u,.bool ca] 32 6,.row (strs (deNm (aB L) (j+1+1))) 9 1] _ _;have hap:strs ((L.take (j+1)).map (·.2))++[V.str c.2]=strs (deNm (aB L) (j+1+1)):=by
     have ht:L.take (j+1+1)=L.take (j+1)++L[j+1]?.toList:=List.take_add_one;rw[nm,ht,e1];unfold strs;simp
    rw[hap];exact de_fits1 k g f u ca L.length (j+1+1) _ _ hfl _ 6 (by omega) _ rfl rfl rfl rfl
def ex6(ds:List V):List V:=[.int .u8 (aq (ds.getD 0 (.bool false))),.str (ab (ds.getD 1 (.bool false))),.int .u8 (aq (ds.getD 2 (.bool false))),.str (ab (ds.getD 3 (.bool false))),.int .u8 (aq (ds.getD 4 (.bool false))),.str (ab (ds.getD 5 (.bool false))),.int .u8 (aq (ds.getD 6 (.bool false))),.str (ab (ds.getD 7 (.bool false))),.int .u8 (aq (ds.getD 8 (.bool false))),.str (ab (ds.getD 9 (.bool false))),.int .u8 (aq (ds.getD 10 (.bool false))),.str (ab (ds.getD 11 (.bool false)))]
def ok6(ds:List V):Bool:=@decide (ex6 ds=ds) (Classical.propDecidable _)
theorem ok6_spec{ds:List V}(h:ok6 ds=true):ex6 ds=ds:=by unfold ok6 at h;simpa using h
theorem ok6_cells{L:List IT}(h:L.length=6):ok6 (aB L)=true:=by
 unfold ok6;simp only[decide_eq_true_eq]
 match L,h with
 |[a,b,c,d,e,f],_=>rfl
def lk30:Nat→Trans→Trans:=oO 1018 (subRow 50 51 6 ex6 ok6) (gH 262138 (isSl 127) (bK 0 (szOf Qq 42) [2,3,21,127,128,129] deDec oE deV deJ deOut) (ah 9))
theorem lk30_ok:aQ Qq 0 lk30 42:=by
 unfold lk30;exact fnSub (subRow_ok fun ds=>ok6_spec) (qt (aY 9 0 42) (by kernel_rfl) fun f st Q h=>bc (P:=Qq) (T:=F0) (k:=0) (lim:=9) (n:=10) (g:=42) (p0:=262138) (lk:=ah 9) aA F0_ok (bf 9 _ _) deMu de_roundOk h)
def allG':List V→Option (Qx):=allG allE allN allC
theorem allG'_ok(args:List V)(l:Qx)(o:V×St)(h:allG' args=some l)(ho:aL l=some o):FnSat Qq 87 args [] (Is o):=allG_ok args l o h ho
def F1:Tab:=⟨addT (addP (addP (addP noT 86 onlyP) 88 rL) 89 kq) 87 allG',addS noL 90 mayG,cI (aT 9) 42 0 lk30⟩
theorem F1_ok:TabOk3 Qq F1:=⟨aR (bg (bg (bg aJ only_ok) read_ok) rdbool_ok) allG'_ok,bP aK mayG_ok,bq (au 9) lk30_ok⟩
def zn_8:=[V.str [],V.str [],V.nilSlice,V.int i64 0,V.int i64 0,V.bool false]
def zn_0:=V.tuple [V.agg zn_8,V.int i64 4]
def zn_1(s:List UInt8):=aF 1 (allC (av s))
def zn_2(s:List UInt8):=(ab ((zn_1 s).getD 5 (V.bool false)))
def zn_3(s:List UInt8):=(ab ((zn_1 s).getD 7 (V.bool false)))
def zn_4(s:List UInt8):=(ab ((zn_1 s).getD 9 (V.bool false)))
def zn_5(s:List UInt8):=ab ((zn_1 s).getD 1 (V.bool false))
def zn_6(s:List UInt8):=ab ((zn_1 s).getD 11 (V.bool false))
def zn_7(s:List UInt8):=ab ((zn_1 s).getD 3 (V.bool false))
def zn_9(s:List UInt8):=V.tuple [V.agg [V.str ((av ((zn_5 s)))),V.str (((zn_7 s))),V.nilSlice,V.int i64 ((aW (zn_3 s))),V.int i64 ((aW (zn_4 s))),V.bool ((zn_6 s)==[255])],V.int i64 0]
def iL(s:List UInt8):=(↑(allN (av s)):Int)
theorem de_tree(s:List UInt8)(R:V→St→Prop):runM Qq F1 9 10 42 [.str s] (fun v st=>R v (visF v st))=
 (
 bif decide ((↑s.length:Int)>512)then R (.tuple [.agg zn_8,.int i64 40]) [.ro true []]else bif (allN (av s)).beq 0 then bif !fe s 48
 then R zn_0 [.ro true []]else bif allE (av s)!=0 then R zn_0 [.ro true []]else R zn_0 [.ro true []]else bif !fe s 48 then R zn_0 [.ro true
 []]else bif allE (av s)!=0 then R zn_0 [.ro true []]else bif (iL s)!=6 then R zn_0 [.ro true []]else bif (allN (av s)).beq 6&&(ok6 (zn_1
 s)&&(iL s)==6)then bif true&&decide (0<(iL s))then bif true&&decide (2<(iL s))then bif (allN (zn_2 s)).beq 0 then bif true&&decide (3<
 (iL s))then bif true&&decide (4<(iL s))then bif true&&decide (5<(iL s))then bif ((aq ((zn_1 s).getD 0 (.bool false))))==48 then bif
 ((aq ((zn_1 s).getD 2 (.bool false))))==4 then bif ((aq ((zn_1 s).getD 4 (.bool false))))==48 then bif ((aq ((zn_1 s).getD 6 (.bool false))))
 ==2 then bif ((aq ((zn_1 s).getD 8 (.bool false))))==2 then bif ((aq ((zn_1 s).getD 10 (.bool false))))==1 then bif !fe ((zn_5 s)) 4 then R
 zn_0 [.ro true []]else bif (if rbE ((zn_6 s))>if bo (zn_4 s)>if bo (zn_3 s)>allE (zn_2 s)then bo (zn_3 s)else allE (zn_2 s)then bo (zn_4
 s)else if bo (zn_3 s)>allE (zn_2 s)then bo (zn_3 s)else allE (zn_2 s)then rbE ((zn_6 s))else if bo (zn_4 s)>if bo (zn_3 s)>allE (zn_2 s)
 then bo (zn_3 s)else allE (zn_2 s)then bo (zn_4 s)else if bo (zn_3 s)>allE (zn_2 s)then bo (zn_3 s)else allE (zn_2 s))!=0 then R zn_0
 [.ro true []]else bif true&&decide (1<(iL s))then bif !(mayC ((av ((zn_5 s)))) (((zn_7 s))) ((aW (zn_3 s))) ((aW (zn_4 s)))&&true)then R
 zn_0 [.ro true []]else R (zn_9 s) [.ro true []]else False else R zn_0 [.ro true []]else R zn_0 [.ro true []]else R zn_0 [.ro true []]else R
 zn_0 [.ro true []]else R zn_0 [.ro true []]else R zn_0 [.ro true []]else False else False else False else bif true&&decide (3<(iL s))then bif
 true&&decide (4<(iL s))then bif true&&decide (5<(iL s))then bif ((aq ((zn_1 s).getD 0 (.bool false))))==48 then bif ((aq ((zn_1
 s).getD 2 (.bool false))))==4 then bif ((aq ((zn_1 s).getD 4 (.bool false))))==48 then bif ((aq ((zn_1 s).getD 6 (.bool false))))==2 then bif
 ((aq ((zn_1 s).getD 8 (.bool false))))==2 then bif ((aq ((zn_1 s).getD 10 (.bool false))))==1 then bif !fe ((zn_5 s)) 4 then R zn_0 [.ro true
 []]else bif (if rbE ((zn_6 s))>if bo (zn_4 s)>if bo (zn_3 s)>allE (zn_2 s)then bo (zn_3 s)else allE (zn_2 s)then bo (zn_4 s)else if bo
 (zn_3 s)>allE (zn_2 s)then bo (zn_3 s)else allE (zn_2 s)then rbE ((zn_6 s))else if bo (zn_4 s)>if bo (zn_3 s)>allE (zn_2 s)then bo (zn_3
 s)else allE (zn_2 s)then bo (zn_4 s)else if bo (zn_3 s)>allE (zn_2 s)then bo (zn_3 s)else allE (zn_2 s))!=0 then R zn_0 [.ro true []]else
 bif true&&decide (1<(iL s))then Fits 0 [.ptr 0 0,.int i64 0,.ptr 2 0,.slice 1 0 (allN (zn_2 s)) false 0 0,.int i64 (↑(allN (zn_2
 s)):Int),.int i64 0] [.row zn_8 32 6,.row (aF 9 (allC (zn_2 s))) 136 2,.row [.str (av ((zn_5 s))),.str ((zn_7 s)),.nilSlice,
 .int i64 (aW (zn_3 s)),.int i64 (aW (zn_4 s)),.bool ((zn_6 s)==[255])] 32 6] [some (.ptr 0 0),some (.int i64 0),some
 (.ptr 10 0),some (.slice 9 0 (allN (zn_2 s)) false 0 0),some (.int i64 (↑(allN (zn_2 s)):Int)),some (.int i64 0)] [.row zn_8 32 6,
 .row [.int u8 (aq ((zn_1 s).getD 0 (.bool false))),.str (zn_5 s),.int u8 (aq ((zn_1 s).getD 2 (.bool false))),.str (zn_7 s),
 .int u8 (aq ((zn_1 s).getD 4 (.bool false))),.str (ab ((zn_1 s).getD 5 (.bool false))),.int u8 (aq ((zn_1 s).getD 6 (.bool
 false))),.str (ab ((zn_1 s).getD 7 (.bool false))),.int u8 (aq ((zn_1 s).getD 8 (.bool false))),.str (ab ((zn_1 s).getD 9 (.bool
 false))),.int u8 (aq ((zn_1 s).getD 10 (.bool false))),.str (zn_6 s)] 136 2,.row [.int u8 (((aq ((zn_1 s).getD 0 (.bool
 false))))),.int u8 (((aq ((zn_1 s).getD 2 (.bool false))))),.int u8 (((aq ((zn_1 s).getD 4 (.bool false))))),.int u8
 (((aq ((zn_1 s).getD 6 (.bool false))))),.int u8 (((aq ((zn_1 s).getD 8 (.bool false))))),.int u8 (((aq ((zn_1 s).getD 10
 (.bool false)))))] 135 6,.row [.int u8 ((aq ((zn_1 s).getD 0 (.bool false)))),.str ((zn_5 s))] 136 2,.row [.int u8 ((aq
 ((zn_1 s).getD 2 (.bool false)))),.str ((zn_7 s))] 136 2,.row [.int u8 ((aq ((zn_1 s).getD 4 (.bool false)))),.str (zn_2 s)] 136 2,
 .row [.int u8 ((aq ((zn_1 s).getD 6 (.bool false)))),.str (zn_3 s)] 136 2,.row [.int u8 ((aq ((zn_1 s).getD 8 (.bool
 false)))),.str (zn_4 s)] 136 2,.row [.int u8 ((aq ((zn_1 s).getD 10 (.bool false)))),.str ((zn_6 s))] 136 2,.row (aF 9 (allC (zn_2
 s))) 136 2,.row [.str (av ((zn_5 s))),.str ((zn_7 s)),.nilSlice,.int i64 (aW (zn_3 s)),.int i64 (aW (zn_4 s)),.bool
 ((zn_6 s)==[255])] 32 6]∧bif oE
 {k:=av ((zn_5 s)),g:=(zn_7 s),f:=aW (zn_3 s),u:=aW (zn_4 s),ca:=(zn_6 s)==[255],ds:=aF 9 (allC (zn_2 s)),n:=allN (zn_2 s),i:=0}
 then bif jA (aF 9 (allC (zn_2 s)))then(allN (zn_2 s)=0→bif !(mayC ((av ((zn_5 s)))) (((zn_7 s))) ((aW (zn_3 s))) ((aW (zn_4 s)))&&true)
 then R zn_0 [.ro true []]else R (zn_9 s) [.ro true []])∧∀(j:Nat),allN (zn_2 s)=j+1→bif (0+(j+1)*1).ble (strs (List.map (fun x=>x.snd)
 (dy (aF 9 (allC (zn_2 s)))))).length&&((List.take ((j+1)*1) (List.drop 0 (strs (List.map (fun x=>x.snd) (dy (aF 9 (allC (zn_2
 s)))))))).all ar&&(List.take ((j+1)*1) (List.drop 0 (strs (List.map (fun x=>x.snd) (dy (aF 9 (allC (zn_2 s)))))))).length.beq (j+1))&&
 (List.map ab (List.take ((j+1)*1) (List.drop 0 (strs (List.map (fun x=>x.snd) (dy (aF 9 (allC (zn_2 s))))))))).length.ble 9223372036854775807
 then bif !(mayC ((av ((zn_5 s)))) (((zn_7 s))) ((aW (zn_3 s))) ((aW (zn_4 s)))&&(List.map ab (List.take ((j+1)*1) (List.drop 0 (strs (List.map
 (fun x=>x.snd) (dy (aF 9 (allC (zn_2 s))))))))).all patN)then R zn_0 [.ro true []]else R (.tuple [.agg [.str ((av ((zn_5 s)))),.str
 (((zn_7 s))),.slice 3 0 (j+1) false 0 0,.int i64 ((aW (zn_3 s))),.int i64 ((aW (zn_4 s))),.bool ((zn_6 s)==[255])],.int
 i64 0]) [.dead,.dead,.dead,.row (strs (List.map (fun x=>x.snd) (dy (aF 9 (allC (zn_2 s)))))) 9 1]else False else ∀(i:Nat),R
 zn_0 [.ro true []]else False else False else R zn_0 [.ro true []]else R zn_0 [.ro true []]else R zn_0 [.ro true []]else R zn_0 [.ro true []]
 else R zn_0 [.ro true []]else R zn_0 [.ro true []]else False else False else False else False else False else False):=by kernel_rfl
structure CD where
 k:List UInt8
 g:List UInt8
 l:List (List UInt8)
 f:Int
 u:Int
 ca:Bool
def m2(x y:Int):Int:=if y>x then y else x
def decT(L:List IT):Option CD:=match L with
 |[x0,x1,x2,x3,x4,x5]=>
  bif (x0.1==48)&&((x1.1==4)&&((x2.1==48)&&((x3.1==2)&&((x4.1==2)&&(x5.1==1)))))then
   (bif fe x0.2 4 then
     (bif m2 (m2 (m2 (allE x2.2) (bo x3.2)) (bo x4.2)) (rbE x5.2)!=0 then none else
       (bif (allI x2.2).all (fun y=>y.1==130)then
         (bif mayC (av x0.2) x1.2 (aW x3.2) (aW x4.2)&&((allI x2.2).map (·.2)).all patN then some ⟨av x0.2,x1.2,(allI x2.2).map (·.2),aW x3.2,aW x4.2,x5.2==[255]⟩else none)
       else none))
   else none)
  else none
 |_=>none
def decC(s:List UInt8):Option CD:=bif fe s 48 then(bif allE (av s)!=0 then none else decT (allI (av s)))else none
def decR(s:List UInt8):Option CD:=bif decide ((s.length:Int)>512)then none else decC s
def decE(s:List UInt8):Int:=bif decide ((s.length:Int)>512)then 40 else(match decC s with
 |some _=>0
 |none=>4)
def iN:V:=.agg [.str [],.str [],.nilSlice,.int .i64 0,.int .i64 0,.bool false]
def outD(s:List UInt8):V×St:=match decR s with
 |none=>(.tuple [iN,.int .i64 (decE s)],[])
 |some c=>match c.l with
  |[]=>(.tuple [.agg [.str c.k,.str c.g,.nilSlice,.int .i64 c.f,.int .i64 c.u,.bool c.ca],.int .i64 0],[])
  |h::t=>(.tuple [.agg [.str c.k,.str c.g,.slice 0 0 (h::t).length false 0 0,.int .i64 c.f,.int .i64 c.u,.bool c.ca],.int .i64 0],[.row (strs (h::t)) 9 1])
theorem sU:∀(k:Nat) (s:List UInt8) (acc:List IT),acc.length≤64→(alF k s acc).1.length≤64
 |0,s,acc,h=>by rw[alF];exact h
 |k+1,s,acc,h=>by
  rw[alF];split
  ·exact h
  ·split
   ·split
    ·simp
    ·exact sU k _ _ (by rw[bQ];simp;omega)
   ·simp
theorem fX(s:List UInt8):(allI s).length≤64:=sU _ s [] (by simp)
theorem iu(k:Nat):∀L:List IT,aF k (aB L)=aB L
 |[]=>rfl
 |x::r=>by simp only[aB,aF,V.shift,iu k r]
def deQ(s:List UInt8)(u:V)(st:St):Prop:=Fits 0 [(outD s).1] (outD s).2 [some u] st∧(decE s=0→(outD s).2=[]→∃b:Nat,st[b]?=some (Blk.ro true []))
theorem de_all(s:List UInt8):runM Qq F1 9 10 42 [.str s] (fun u st=>deQ s u (visF u st)):=by
 refine cast (de_tree s (deQ s)).symm ?_;unfold iL zn_9 zn_7 zn_6 zn_5 zn_4 zn_3 zn_2 zn_1 zn_0 zn_8;have zero:∀(e:Int) (st:St),e≠0→decR s=none→decE s=e→deQ s (.tuple [.agg [.str [],.str [],.nilSlice,.int .i64 0,.int .i64 0,.bool false],.int .i64 e]) st:=by
  intro e st he h1 h2;have e1:outD s=(.tuple [iN,.int .i64 e],[]):=by unfold outD;rw[h1,h2]
  refine⟨?_,fun h3=>absurd (h2.symm.trans h3) he⟩;rw[e1];exact aV [.tuple [iN,.int .i64 e]] rfl _ rfl st
 refine ac (fun h=>?_) (fun hlen=>?_)
 ·exact zero 40 _ (by decide) (by unfold decR;rw[h];rfl) (by unfold decE;rw[h];rfl)
 have bad:decC s=none→∀st,deQ s (.tuple [.agg [.str [],.str [],.nilSlice,.int .i64 0,.int .i64 0,.bool false],.int .i64 4]) st:=fun h st=>
  zero 4 st (by decide) (by unfold decR;rw[hlen];exact h) (by unfold decE;rw[hlen,h];rfl)
 have good:∀c,decC s=some c→decR s=some c:=fun c h=>by unfold decR;rw[hlen];exact h
 have b1:fe s 48=false→decC s=none:=fun h=>by unfold decC;rw[h];rfl
 have b2:(allE (av s)!=0)=true→decC s=none:=fun h=>by
  unfold decC;rw[h];cases fe s 48<;>rfl
 have b3:allN (av s)≠6→decC s=none:=fun h=>by
  unfold decC decT;unfold allN at h;cases fe s 48 with
  |false=>rfl
  |true=>
   cases(allE (av s)!=0)with
   |true=>rfl
   |false=>
    rw[ae,ak];split
    ·rename_i x0 x1 x2 x3 x4 x5 hI;rw[hI]at h;exact absurd rfl h
    ·rfl
 refine ac (fun h0=>?_) (fun h0=>?_)
 ·have h0:=aP h0;have hn:=b3 (by omega);refine ac (fun _=>bad hn _) (fun _=>ac (fun _=>bad hn _) (fun _=>bad hn _))
 refine ac (fun h=>?_) (fun h=>?_)
 ·exact bad (b1 (by rw[Bool.not_eq_true']at h;exact h)) _
 have ho:fe s 48=true:=by rw[Bool.not_eq_false']at h;exact h
 refine ac (fun h=>bad (b2 h) _) (fun hE=>?_);refine ac (fun h=>?_) (fun h=>?_)
 ·have h:(allN (av s):Int)≠6:=by simpa using h
  exact bad (b3 (by omega)) _
 have h6:(allN (av s):Int)=6:=by simpa using h
 have h6:allN (av s)=6:=by omega
 have hI:∃x0 x1 x2 x3 x4 x5,allI (av s)=[x0,x1,x2,x3,x4,x5]:=by
  unfold allN at h6
  match hI:allI (av s),h6 with
  |[a,b,c,d,e,f],_=>exact⟨a,b,c,d,e,f,rfl⟩
 obtain⟨x0,x1,x2,x3,x4,x5,hI⟩:=hI;have hC:decC s=decT [x0,x1,x2,x3,x4,x5]:=by unfold decC;rw[ho,hE,hI];rfl
 have hcs:aF 1 (allC (av s))=aB [x0,x1,x2,x3,x4,x5]:=by unfold allC;rw[hI,iu]
 have hok:ok6 (aB [x0,x1,x2,x3,x4,x5])=true:=ok6_cells rfl;have hk:(Nat.beq 6 6&&(true&&((6:Int)==6)))=true:=rfl;have hd:∀k:Int,k<6→decide (k<((6:Nat):Int))=true:=fun k h=>am (by omega);rw[hcs,h6,hok];simp only[aB,List.getD_cons_succ,List.getD_cons_zero,ab,aq,hd 0 (by omega),hd 1 (by omega),hd 2 (by omega),hd 3 (by omega),hd 4 (by omega),hd 5 (by omega),Bool.and_true,ae];rw[show(Nat.beq 6 6&&(true&&(((6:Nat):Int)==6)))=true from rfl,ae];have tagd:(x0.1==48)=true→(x1.1==4)=true→(x2.1==48)=true→(x3.1==2)=true→(x4.1==2)=true→(x5.1==1)=true→decC s=
   (bif fe x0.2 4 then
     (bif m2 (m2 (m2 (allE x2.2) (bo x3.2)) (bo x4.2)) (rbE x5.2)!=0 then none else
       (bif (allI x2.2).all (fun y=>y.1==130)then
         (bif mayC (av x0.2) x1.2 (aW x3.2) (aW x4.2)&&((allI x2.2).map (·.2)).all patN then some ⟨av x0.2,x1.2,(allI x2.2).map (·.2),aW x3.2,aW x4.2,x5.2==[255]⟩else none)
       else none))
   else none):=by
  intro t0 t1 t2 t3 t4 t5;rw[hC];simp only[decT,t0,t1,t2,t3,t4,t5,bv,ae]
 have nilL:allI x2.2=[]→(mayC (av x0.2) x1.2 (aW x3.2) (aW x4.2))=true→decC s=(bif (allI x2.2).all (fun y=>y.1==130)then
    (bif mayC (av x0.2) x1.2 (aW x3.2) (aW x4.2)&&((allI x2.2).map (·.2)).all patN then some ⟨av x0.2,x1.2,(allI x2.2).map (·.2),aW x3.2,aW x4.2,x5.2==[255]⟩else none)
   else none)→∀st:St,(∃b:Nat,st[b]?=some (Blk.ro true []))→deQ s (.tuple [.agg [.str (av x0.2),.str x1.2,.nilSlice,.int .i64 (aW x3.2),.int .i64 (aW x4.2),.bool (x5.2==[255])],.int .i64 0]) st:=by
  intro h hm hT st hst;rw[h,hm]at hT;have hR:=good _ hT;have e1:outD s=(.tuple [.agg [.str (av x0.2),.str x1.2,.nilSlice,.int .i64 (aW x3.2),.int .i64 (aW x4.2),.bool (x5.2==[255])],.int .i64 0],[]):=by unfold outD;rw[hR];rfl
  refine⟨?_,fun _ _=>hst⟩;rw[e1];exact aV [.tuple [.agg [.str (av x0.2),.str x1.2,.nilSlice,.int .i64 (aW x3.2),.int .i64 (aW x4.2),.bool (x5.2==[255])],.int .i64 0]] rfl _ rfl st
 refine ac (fun h0=>?_) (fun h0=>?_)
 ·have h0:=aP h0;have hL:allI x2.2=[]:=List.eq_nil_of_length_eq_zero h0;refine ac (fun t0=>?_) (fun t0=>bad (by rw[hC];simp only[decT,t0,Bool.false_and,ak]) _);refine ac (fun t1=>?_) (fun t1=>bad (by rw[hC];simp only[decT,t1,Bool.false_and,bL,ak]) _);refine ac (fun t2=>?_) (fun t2=>bad (by rw[hC];simp only[decT,t2,Bool.false_and,bL,ak]) _);refine ac (fun t3=>?_) (fun t3=>bad (by rw[hC];simp only[decT,t3,Bool.false_and,bL,ak]) _);refine ac (fun t4=>?_) (fun t4=>bad (by rw[hC];simp only[decT,t4,Bool.false_and,bL,ak]) _);refine ac (fun t5=>?_) (fun t5=>bad (by rw[hC];simp only[decT,t5,bL,ak]) _);have hT:=tagd t0 t1 t2 t3 t4 t5;refine ac (fun h=>bad (by rw[Bool.not_eq_true']at h;rw[hT,h];rfl) _) (fun h=>?_);rw[Bool.not_eq_false']at h;rw[h,ae]at hT;refine ac (fun h=>bad (by have h:(m2 (m2 (m2 (allE x2.2) (bo x3.2)) (bo x4.2)) (rbE x5.2)!=0)=true:=h;rw[hT,h];rfl) _) (fun h=>?_);have h:(m2 (m2 (m2 (allE x2.2) (bo x3.2)) (bo x4.2)) (rbE x5.2)!=0)=false:=h;rw[h,ak]at hT;refine ac (fun h=>bad (by rw[Bool.not_eq_true']at h;rw[hT,hL,h];rfl) _) (fun h=>?_);rw[Bool.not_eq_false']at h;exact nilL hL h hT _ ⟨0,rfl⟩
 ·have hcs9:aF 9 (allC x2.2)=aB (allI x2.2):=by unfold allC;rw[iu]
  have hN:allN x2.2=(allI x2.2).length:=rfl;have hda:jA (aB (allI x2.2))=(allI x2.2).all (fun y=>y.1==130):=by unfold jA;rw[cP]
  rw[hcs9];refine ac (fun t0=>?_) (fun t0=>bad (by rw[hC];simp only[decT,t0,Bool.false_and,ak]) _);refine ac (fun t1=>?_) (fun t1=>bad (by rw[hC];simp only[decT,t1,Bool.false_and,bL,ak]) _);refine ac (fun t2=>?_) (fun t2=>bad (by rw[hC];simp only[decT,t2,Bool.false_and,bL,ak]) _);refine ac (fun t3=>?_) (fun t3=>bad (by rw[hC];simp only[decT,t3,Bool.false_and,bL,ak]) _);refine ac (fun t4=>?_) (fun t4=>bad (by rw[hC];simp only[decT,t4,Bool.false_and,bL,ak]) _);refine ac (fun t5=>?_) (fun t5=>bad (by rw[hC];simp only[decT,t5,bL,ak]) _);have hT:=tagd t0 t1 t2 t3 t4 t5;refine ac (fun h=>bad (by rw[Bool.not_eq_true']at h;rw[hT,h];rfl) _) (fun h=>?_);rw[Bool.not_eq_false']at h;rw[h,ae]at hT;refine ac (fun h=>bad (by have h:(m2 (m2 (m2 (allE x2.2) (bo x3.2)) (bo x4.2)) (rbE x5.2)!=0)=true:=h;rw[hT,h];rfl) _) (fun h=>?_);have h:(m2 (m2 (m2 (allE x2.2) (bo x3.2)) (bo x4.2)) (rbE x5.2)!=0)=false:=h;rw[h,ak]at hT;refine⟨?_,aa ?_ ?_⟩
  ·exact⟨[0,9,10],_,rfl,rfl,FitsM.of ⟨.inr ⟨_,.inl rfl,rfl⟩,.inr ⟨.row (aB (allI x2.2)) 136 2,.inl (by simp only[renB,aC _ (fB _)]),rfl⟩,.inr ⟨_,.inl rfl,rfl⟩,trivial⟩,by decide,fun i hi=>by omega⟩
  ·unfold oE;simp only[ad];exact⟨okLs_mk (fX x2.2),ag (Nat.zero_le _),rfl⟩
  ·rw[hda];refine ac (fun ha=>?_) (fun ha=>?_)
   ·rw[ha,ae]at hT;refine⟨fun hz=>?_,fun j hj=>?_⟩
    ·rw[hz]at h0;cases h0
    ·have t1:List.take ((j+1)*1) (List.drop 0 (strs ((dy (aB (allI x2.2))).map (fun x=>x.2))))=strs ((allI x2.2).map (·.2)):=by
      rw[List.drop_zero,cP];exact cz (by rw[aE,cg,←hN,hj];omega)
     have t2:(0+(j+1)*1).ble (strs ((dy (aB (allI x2.2))).map (fun x=>x.2))).length=true:=ag (by rw[aE,cg,cP,←hN,hj];omega);have t3:(strs ((allI x2.2).map (·.2))).length.beq (j+1)=true:=by rw[aE,cg,←hN,hj];exact a9 _
     have t4:((allI x2.2).map (·.2)).length.ble 9223372036854775807=true:=ag (by rw[cg];have:=fX x2.2;omega);have t5:dy (aB (allI x2.2))=allI x2.2:=cP _;rw[t1,t2,t3,t5];simp only[bD,ai,t4,bv,ae];refine ac (fun h=>bad (by rw[Bool.not_eq_true']at h;rw[hT,h];rfl) _) (fun h=>?_);rw[Bool.not_eq_false']at h;rw[h,ae]at hT;have hR:=good _ hT;obtain⟨a,r,har⟩:∃a r,(allI x2.2).map (·.2)=a::r:=by
      cases hm:(allI x2.2).map (·.2)with
      |nil=>have:=congrArg List.length hm;rw[cg,←hN,hj]at this;simp at this
      |cons a r=>exact⟨a,r,rfl⟩
     have hl2:(a::r).length=j+1:=by rw[←har,cg,←hN,hj]
     have e1:outD s=(.tuple [.agg [.str (av x0.2),.str x1.2,.slice 0 0 (j+1) false 0 0,.int .i64 (aW x3.2),.int .i64 (aW x4.2),.bool (x5.2==[255])],.int .i64 0],[.row (strs (a::r)) 9 1]):=by unfold outD;rw[hR,har,←hl2]
     refine⟨?_,fun _ h2=>by rw[e1]at h2;cases h2⟩;rw[e1,har];exact⟨[3],[.tuple [.agg [.str (av x0.2),.str x1.2,.slice 3 0 (j+1) false 0 0,.int .i64 (aW x3.2),.int .i64 (aW x4.2),.bool (x5.2==[255])],.int .i64 0]],rfl,rfl,FitsM.of ⟨.inr ⟨.row (strs (a::r)) 9 1,.inl (by simp only[renB,aC _ (br _)]),rfl⟩,trivial⟩,by decide,fun i hi=>by omega⟩
   ·intro i;exact bad (by rw[hT,ha];rfl) _
theorem rP(s:List UInt8):∀b∈(outD s).2,∃cs t sz,b=Blk.row cs t sz:=by
 unfold outD;split
 ·simp
 ·split
  ·simp
  ·intro b hb;simp only[List.mem_singleton]at hb;exact⟨_,_,_,hb⟩
theorem de_sat(s:List UInt8):FnSat Qq 42 [.str s] [] (Is (outD s)):=
 FnSat.fits ((dX aA F1_ok (de_all s)).mono fun u st hq=>sC (rP s) hq.1)
def dCd(s:List UInt8):CD:=(decR s).getD ⟨[],[],[],0,0,false⟩
def dK(s:List UInt8):List UInt8:=(dCd s).k
def dG(s:List UInt8):List UInt8:=(dCd s).g
def dL(s:List UInt8):List (List UInt8):=(dCd s).l
def dN(s:List UInt8):Nat:=(dL s).length
def dF(s:List UInt8):Int:=(dCd s).f
def dU(s:List UInt8):Int:=(dCd s).u
def dCa(s:List UInt8):Bool:=(dCd s).ca
theorem j4(s:List UInt8):(decE s=0↔∃c,decR s=some c):=by
 unfold decE decR;cases decide ((s.length:Int)>512)with
 |true=>simp
 |false=>
  rw[ak,ak];cases decC s with
  |none=>simp
  |some c=>simp
def decG:List V→Option (Qx)
 |[.str s]=>some [(decE s !=0,(.tuple [iN,.int .i64 (decE s)],[])),(Nat.beq (dN s) 0,(.tuple [.agg [.str (dK s),.str (dG s),.nilSlice,.int .i64 (dF s),.int .i64 (dU s),.bool (dCa s)],.int .i64 0],[])),(true,(.tuple [.agg [.str (dK s),.str (dG s),.slice 0 0 (dN s) false 0 0,.int .i64 (dF s),.int .i64 (dU s),.bool (dCa s)],.int .i64 0],[.row (strs (dL s)) 9 1]))]
 |_=>none
theorem uu(args:List V)(l:Qx)(o:V×St)(h:decG args=some l)(ho:aL l=some o):FnSat Qq 42 args [] (Is o):=by
 unfold decG at h;split at h
 ·rename_i s;cases h;have key:o=outD s:=by
   cases hR:decR s with
   |none=>
    have hE:(decE s !=0)=true:=by
     cases hq:(decE s !=0)with
     |true=>rfl
     |false=>
      have:decE s=0:=by simpa using hq
      obtain⟨c,hc⟩:=(j4 s).1 this;rw[hR]at hc;cases hc
    simp only[aL,hE,ae,af]at ho;rw[←ho];unfold outD;rw[hR]
   |some c=>
    have hE:(decE s !=0)=false:=by
     have:=(j4 s).2 ⟨c,hR⟩;rw[this];rfl
    have hc:dCd s=c:=by unfold dCd;rw[hR];rfl
    simp only[aL,hE,ak]at ho;unfold dN dK dG dL dF dU dCa at ho;rw[hc]at ho;unfold outD;rw[hR];cases hl:c.l with
    |nil=>
     rw[hl,show Nat.beq ([]:List (List UInt8)).length 0=true from rfl,ae]at ho;injection ho with ho
     rw[←ho];simp only[hl]
    |cons a r=>
     rw[hl,show Nat.beq (a::r).length 0=false from rfl,ak,ae]at ho;injection ho with ho
     rw[←ho];simp only[hl]
  rw[key];exact de_sat s
 ·cases h
theorem cp_tree(s:List UInt8)(R:V→Prop):runW Qq N0 9 20 78 [.str s,.str [42,46]] R=
  (
 bif decide ((↑s.length:Int)≥2)then bif true&&Nat.ble 2 s.length then bif !List.take 2 (List.drop 0 s)==[42,46]then R (.tuple [.str s,.bool false])else bif
 Nat.ble 2 s.length&&s.length.ble s.length then R (.tuple [.str (List.take (s.length-2) (List.drop 2 s)),.bool true])else False else False else R (.tuple [.str
 s,.bool false])):=by kernel_rfl
def eY(s:List UInt8):Bool:=s.take 2==[42,46]
def cpP:List V→Option V
 |[.str s,.str [42,46]]=>some (.tuple [.str (cV s),.bool (eY s)])
 |_=>none
theorem sR(s:List UInt8):cV s=bif eY s then s.drop 2 else s:=by
 unfold cV eY;by_cases h:s.take 2=[42,46]
 ·rw[if_pos h,h];rfl
 ·rw[if_neg h,(by simpa using h:(s.take 2==[42,46])=false)];rfl
theorem cp_ok(args:List V)(v:V)(h:cpP args=some v):FnSat Qq 78 args [] (Is (v,[])):=by
 unfold cpP at h;split at h
 ·rename_i s;cases h;refine ax (lim:=9) (n:=20) aA N0_ok rfl rfl ?_;rw[cp_tree];have hb:cV s=bif eY s then s.drop 2 else s:=sR s
  refine ac (fun h=>?_) (fun h=>?_)
  ·have h:=aN h;refine aa (by rw[aH];exact ag (by omega)) ?_;rw[List.drop_zero];show bif !eY s then _ else _
   refine ac (fun h2=>?_) (fun h2=>?_)
   ·rw[Bool.not_eq_true']at h2;rw[h2]at hb ⊢;rw[hb];rfl
   ·rw[Bool.not_eq_false']at h2;rw[h2]at hb ⊢;refine aa (by rw[ad];exact⟨ag (by omega),ag (Nat.le_refl _)⟩) ?_;rw[hb,cz (by rw[List.length_drop];omega)];rfl
  ·have h:=bk h;have h2:eY s=false:=by
    unfold eY;cases hq:(s.take 2==[42,46])with
    |false=>rfl
    |true=>
     have:=congrArg List.length (eq_of_beq hq);simp at this;omega
   rw[h2]at hb ⊢;rw[hb];rfl
 ·cases h
def MP:Tab:=⟨addP (addT noT 123 cutP) 131 mayP,noL,aT 9⟩
theorem MP_ok:TabOk3 Qq MP:=⟨bg (aR aJ qC) pU,aK,au 9⟩
theorem par_tree(s:List UInt8)(R:V→Prop):runW Qq MP 9 20 132 [.str s] R=
  (
 bif az s then bif !cutM s then R (.tuple [.str [],.bool false])else bif !mayN s then R (.tuple [.str [],.bool false])else R (.tuple [.str (cutR s),.bool
 true])else False):=by kernel_rfl
def parB(s:List UInt8):Bool:=cutM s&&mayN s
def parP:List V→Option (Qx)
 |[.str s]=>some [(az s,(.tuple [.str (bif parB s then cutR s else[]),.bool (parB s)],[]))]
 |_=>none
theorem par_ok(args:List V)(l:Qx)(o:V×St)(h:parP args=some l)(ho:aL l=some o):FnSat Qq 132 args [] (Is o):=by
 unfold parP at h;split at h
 ·rename_i s;cases h;obtain⟨hk,rfl⟩:=aO ho;refine ax (lim:=9) (n:=20) aA MP_ok rfl rfl ?_;rw[par_tree,hk,ae];unfold parB;cases cutM s<;>cases mayN s<;>rfl
 ·cases h
def MQ:Tab:=⟨addP (addP (addT (addP noT 130 patP) 132 parP) 131 mayP) 78 cpP,noL,aT 9⟩
theorem MQ_ok:TabOk3 Qq MQ:=⟨bg (bg (aR (bg aJ pat_ok) par_ok) pU) cp_ok,aK,au 9⟩
theorem match_tree(p s:List UInt8)(R:V→Prop):runW Qq MQ 9 20 73 [.str p,.str s] R=
  (
 bif !patN p then R (.bool false)else bif !mayN s then R (.bool false)else bif eY p then bif az s then bif parB s then R (.bool ((bif parB s then cutR s else
 [])==cV p))else R (.bool false)else False else R (.bool (p==s))):=by kernel_rfl
def gn(p s:List UInt8):Bool:=patN p&&(mayN s&&(bif eY p then parB s&&(cutR s==cV p)else p==s))
def matchP:List V→Option V
 |[.str p,.str s]=>some (.bool (gn p s))
 |_=>none
theorem may_len{s:List UInt8}(h:mayN s=true):s.length≤253:=by
 unfold mayN at h;rw[ad]at h;exact aN h.1
theorem match_ok(args:List V)(v:V)(h:matchP args=some v):FnSat Qq 73 args [] (Is (v,[])):=by
 unfold matchP at h;split at h
 ·rename_i p s;cases h;refine ax (lim:=9) (n:=20) aA MQ_ok rfl rfl ?_;rw[match_tree];unfold gn;cases h1:patN p with
  |false=>rfl
  |true=>
  cases h2:mayN s with
  |false=>rfl
  |true=>
  cases h3:eY p with
  |false=>rfl
  |true=>
  have hk:az s=true:=am (by have:=may_len h2;omega);rw[hk];cases parB s<;>rfl
 ·cases h
def lsRg:Array Tmp×Code×Code:=(fd (iq Qq 181)).getD (#[],.skip,.skip)
def lsAs:Code:=lsRg.2.1
def lsBd:Code:=lsRg.2.2
def lsT:List (Nat×V):=[(2,.ptr 1 0)]
def lsL(s:LoopState)(p:Option Code):Blk:=ko Qq 181 s p lsT 2
def LS0:Tab:=⟨addP (addT noT 123 cutP) 131 mayP,noL,aT 9⟩
theorem LS0_ok:TabOk3 Qq LS0:=⟨bg (aR aJ qC) pU,aK,au 9⟩
theorem ls_round0(s:List UInt8)(R:Qz):al Qq LS0 9 10 (ah 9) 182 2 [0,1] [.yield 3,.ptr 0 0] [.row [.str s] 9 1,.row [.nilSlice] 22 1,.defd,lsL .ready none] R=
  (
 bif az s then bif !cutM s then R .ret [some (V.yield 3),some (.ptr 0 0)] [.row [.str s] 9 1,.row [.slice 5 0 1 false 0 0] 22 1,Blk.defd,lsL
 LoopState.ready none,.row [.str (cutB s)] 9 1,.row [.str (cutB s)] 9 1]else R .normal [some (V.yield 3),some (.ptr 0 0)] [.row [.str (cutR s)] 9 1,
 .row [.slice 5 0 1 false 0 0] 22 1,Blk.defd,lsL LoopState.ready none,.row [.str (cutB s)] 9 1,.row [.str (cutB s)] 9 1]else False):=by kernel_rfl
theorem ls_round1(s:List UInt8)(n:Nat)(o:List V)(R:Qz):al Qq LS0 9 10 (ah 9) 182 2 [0,1] [.yield 3,.ptr 0 0] [.row [.str s] 9 1,.row [.slice 4 0 n false 0 0] 22 1,.defd,lsL .ready none,.row o 9 1] R=
  (
 bif az s then bif o.length.beq (n*1)then bif (n+1).ble 9223372036854775807&&((n+1)*16).ble 140737488355328 then bif !cutM s then R .ret [some (V.yield
 3),some (.ptr 0 0)] [.row [.str s] 9 1,.row [.slice 6 0 (n+1) false 0 0] 22 1,Blk.defd,lsL LoopState.ready none,.dead,.row [.str (cutB s)] 9 1,
 .row (o++[V.str (cutB s)]) 9 1]else R .normal [some (V.yield 3),some (.ptr 0 0)] [.row [.str (cutR s)] 9 1,.row [.slice 6 0 (n+1) false 0 0] 22 1,
 Blk.defd,lsL LoopState.ready none,.dead,.row [.str (cutB s)] 9 1,.row (o++[V.str (cutB s)]) 9 1]else False else False else False):=by kernel_rfl
def labF:Nat→List UInt8→List (List UInt8)
 |0,_=>[]
 |k+1,s=>bif cutM s then cutB s::labF k (cutR s)else[cutB s]
def db(s:List UInt8):List (List UInt8):=labF (s.length+1) s
theorem sj:∀(k j:Nat) (s:List UInt8),s.length<k→s.length<j→labF k s=labF j s
 |0,_,s,h,_=>by omega
 |_+1,0,s,_,h=>by omega
 |k+1,j+1,s,h1,h2=>by
  rw[labF,labF];cases hm:cutM s with
  |false=>rfl
  |true=>
   have hlt:=iA hm;rw[ae,ae,sj k j _ (by omega) (by omega)]
theorem labs_end{s:List UInt8}(h:cutM s=false):db s=[cutB s]:=by unfold db;rw[labF,h];rfl
theorem labs_next{s:List UInt8}(h:cutM s=true):db s=cutB s::db (cutR s):=by
 have hlt:=iA h;unfold db;rw[labF,h,ae,sj s.length ((cutR s).length+1) _ (by omega) (by omega)]
structure LS where
 s:List UInt8
 o:List (List UInt8)
def lsV(_:LS):List V:=[.yield 3,.ptr 0 0]
def lsM(s:List UInt8):List (List UInt8)→St
 |[]=>[.row [.str s] 9 1,.row [.nilSlice] 22 1,.defd,lsL .ready none]
 |a::r=>[.row [.str s] 9 1,.row [.slice 4 0 (a::r).length false 0 0] 22 1,.defd,lsL .ready none,.row (strs (a::r)) 9 1]
def lsJ(x:LS):St:=lsM x.s x.o
def sg(x:LS):Bool:=Nat.ble (x.o.length+x.s.length) 1000000
def lsMu(x:LS):Nat:=x.s.length
def lsDec:List (Option V)→St→Option LS
 |[some (.yield 3),some (.ptr 0 0)],(.row [.str s] _ _)::(.row [.nilSlice] _ _)::_=>some ⟨s,[]⟩
 |_,_=>none
def t6(n:Nat)(cs:List V)(K:Exit→List V→St→Prop):Prop:=
 ∀s:List UInt8,K .ret [.yield 3,.ptr 0 0] [.row [.str s] 9 1,.row [.slice 4 0 n false 0 0] 22 1,.defd,lsL .ready none,.row cs 9 1]
def lsN(s:List UInt8)(o:List (List UInt8)):Nat:=(o++db s).length
def lsC(s:List UInt8)(o:List (List UInt8)):List V:=strs (o++db s)
def lsOut:Asks LS:=fun x K=>t6 (lsN x.s x.o) (lsC x.s x.o) K
theorem lsL_fit(σ:List Nat)(h1:σ[1]?=some 1)(h2:σ[2]?=some 2)(s:LoopState)(p:Option Code):FitB σ (lsL s p) (lsL s p):=by
 unfold lsL ko;split
 ·refine .inr ⟨_,_,_,_,_,_,_,_,_,_,rfl,rfl,h2,FitT.of (fun t v hm=>?_)⟩;simp only[lsT,List.mem_cons,Prod.mk.injEq,List.not_mem_nil,or_false]at hm;obtain⟨rfl,rfl⟩:=hm;exact⟨.ptr 1 0,by simp[renV,h1],rfl⟩
 ·exact .inl rfl
theorem ls_fits1(s:List UInt8)(n:Nat)(cs:List V)(hf:aM cs=true)(c:Nat)(hc:4≤c)(st:St)(h0:st[0]?=some (.row [.str s] 9 1))(h1:st[1]?=some (.row [.slice c 0 n false 0 0] 22 1))(h2:st[2]?=some .defd)(h3:st[3]?=some (lsL .ready none))(h4:st[c]?=some (.row cs 9 1)):
  Fits 4 [.yield 3,.ptr 0 0] [.row [.str s] 9 1,.row [.slice 4 0 n false 0 0] 22 1,.defd,lsL .ready none,.row cs 9 1] [some (.yield 3),some (.ptr 0 0)] st:=
 ⟨[0,1,2,3,c],[.yield 3,.ptr 0 0],rfl,rfl,FitsM.of ⟨.inr ⟨_,.inl rfl,h0⟩,.inr ⟨_,.inl rfl,h1⟩,.inr ⟨_,.inl rfl,h2⟩,.inr ⟨_,lsL_fit _ rfl rfl .ready none,h3⟩,.inr ⟨.row cs 9 1,.inl (by simp only[renB,aC _ hf]),h4⟩,trivial⟩,by simp;omega,fun i hi=>by
   match i,hi with
   |0,_|1,_|2,_|3,_=>rfl⟩
theorem ls_roundOk(x:LS)(hx:sg x=true):al Qq LS0 9 10 (ah 9) 182 2 [0,1] (lsV x) (lsJ x) (aD 4 sg lsV lsJ lsMu lsOut x):=by
 obtain⟨s,o⟩:=x;have p1:o.length+s.length≤1000000:=aw hx;have hk:az s=true:=am (by omega);have step:∀(c:Nat) (st:St),4≤c→st[0]?=some (.row [.str (cutR s)] 9 1)→st[1]?=some (.row [.slice c 0 (o++[cutB s]).length false 0 0] 22 1)→st[2]?=some .defd→st[3]?=some (lsL .ready none)→st[c]?=some (.row (strs (o++[cutB s])) 9 1)→cutM s=true→
   aD 4 sg lsV lsJ lsMu lsOut ⟨s,o⟩ .normal [some (.yield 3),some (.ptr 0 0)] st:=by
  intro c st hc h0 h1 h2 h3 h4 hm;have hlt:=iA hm;refine⟨⟨cutR s,o++[cutB s]⟩,?_,?_,hlt,fun K hK=>?_⟩
  ·exact ag (by simp only[bQ,bi,List.length_nil];omega)
  ·have:lsJ ⟨cutR s,o++[cutB s]⟩=[.row [.str (cutR s)] 9 1,.row [.slice 4 0 (o++[cutB s]).length false 0 0] 22 1,.defd,lsL .ready none,.row (strs (o++[cutB s])) 9 1]:=by
    cases o<;>rfl
   rw[this];exact ls_fits1 _ _ _ (br _) c hc st h0 h1 h2 h3 h4
  ·have hK:t6 (lsN s o) (lsC s o) K:=hK;show t6 (lsN (cutR s) (o++[cutB s])) (lsC (cutR s) (o++[cutB s])) K;have e:o++db s=(o++[cutB s])++db (cutR s):=by rw[labs_next hm,List.append_assoc];rfl
   unfold lsN lsC at hK ⊢;rw[←e];exact hK
 have fin:∀(c:Nat) (st:St),4≤c→st[0]?=some (.row [.str s] 9 1)→st[1]?=some (.row [.slice c 0 (o++[cutB s]).length false 0 0] 22 1)→st[2]?=some .defd→st[3]?=some (lsL .ready none)→st[c]?=some (.row (strs (o++[cutB s])) 9 1)→cutM s=false→
   aD 4 sg lsV lsJ lsMu lsOut ⟨s,o⟩ .ret [some (.yield 3),some (.ptr 0 0)] st:=by
  intro c st hc h0 h1 h2 h3 h4 hm;refine⟨_,_,fun K hK=>?_,ls_fits1 _ _ _ (br _) c hc st h0 h1 h2 h3 h4⟩;have hK:t6 (lsN s o) (lsC s o) K:=hK;unfold lsN lsC at hK;rw[labs_end hm]at hK;exact hK s
 cases o with
 |nil=>
  show al Qq LS0 9 10 (ah 9) 182 2 [0,1] [.yield 3,.ptr 0 0] [.row [.str s] 9 1,.row [.nilSlice] 22 1,.defd,lsL .ready none] _;rw[ls_round0,hk,ae];refine ac (fun h=>?_) (fun h=>?_)
  ·rw[Bool.not_eq_true']at h;exact fin 5 _ (by omega) rfl rfl rfl rfl rfl h
  ·rw[Bool.not_eq_false']at h;exact step 5 _ (by omega) rfl rfl rfl rfl rfl h
 |cons a r=>
  show al Qq LS0 9 10 (ah 9) 182 2 [0,1] [.yield 3,.ptr 0 0] [.row [.str s] 9 1,.row [.slice 4 0 (a::r).length false 0 0] 22 1,.defd,lsL .ready none,.row (strs (a::r)) 9 1] _;rw[ls_round1,hk,ae];have hs:strs (a::r)++[V.str (cutB s)]=strs (a::r++[cutB s]):=by unfold strs;rw[List.map_append];rfl
  have hn:(a::r).length+1=(a::r++[cutB s]).length:=by simp
  refine aa (by rw[aE,Nat.mul_one];exact a9 _) (aa ?_ ?_)
  ·rw[ad];exact⟨ag (by omega),ag (by omega)⟩
  refine ac (fun h=>?_) (fun h=>?_)
  ·rw[Bool.not_eq_true']at h;exact fin 6 _ (by omega) rfl (by rw[←hn];rfl) rfl rfl (by rw[←hs];rfl) h
  ·rw[Bool.not_eq_false']at h;exact step 6 _ (by omega) rfl (by rw[←hn];rfl) rfl rfl (by rw[←hs];rfl) h
def lkLS:Nat→Trans→Trans:=ba 2 (bK 4 (szOf Qq 182) [0,1] lsDec sg lsV lsJ lsOut) (ah 9)
theorem lkLS_ok:aQ Qq 4 lkLS 182:=by
 unfold lkLS;exact bB (aY 9 4 182) (by kernel_rfl) fun f st Q h=>bc (P:=Qq) (T:=LS0) (k:=4) (lim:=9) (n:=10) (g:=182) (p0:=2) (lk:=ah 9) aA LS0_ok (bf 9 _ _) lsMu ls_roundOk h
def LS1:Tab:=⟨addP (addT noT 123 cutP) 131 mayP,noL,cI (aT 9) 182 4 lkLS⟩
theorem LS1_ok:TabOk3 Qq LS1:=⟨bg (aR aJ qC) pU,aK,bq (au 9) lkLS_ok⟩
theorem labs_tree(s:List UInt8)(R:V→St→Prop):runM Qq LS1 9 10 79 [.str s] R=
  (
 bif !mayN s then R .nilSlice []else Fits 4 [V.yield 3,.ptr 0 0] [.row [.str s] 9 1,.row [.nilSlice] 22 1,Blk.defd,lsL LoopState.ready none] [some (V.yield
 3),some (.ptr 0 0)] [.row [.str s] 9 1,.row [.nilSlice] 22 1,Blk.defd,Blk.loop LoopState.ready none 13 ((Tr.lf.nd (some (V.func (Fn.func 182) [] [.ptr 0
 0])) Tr.lf).nd (some .nilSlice) ((Tr.lf.nd (some .nilSlice) Tr.lf).nd (some (.ptr 1 0)) (Tr.lf.nd (some (V.func (Fn.func 182) [] [.ptr 0 0])) Tr.lf))) {toList:=[7]}
 lsAs lsBd 2]∧bif sg {s:=s,o:=[]}then ∀(s_1:List UInt8),R (.slice 4 0 (lsN s []) false 0 0) [.row [.str s_1] 9 1,.row [.slice 4 0 (lsN s [])
 false 0 0] 22 1,.dead,.dead,.row (lsC s []) 9 1]else False):=by kernel_rfl
def labsT:List V→Option (Qx)
 |[.str s]=>some [(mayN s,(.slice 0 0 (lsN s []) false 0 0,[.row (lsC s []) 9 1])),(!mayN s,(.nilSlice,[]))]
 |_=>none
theorem ls_enter(s:List UInt8)(T2:Tr)(h2:T2.get 2=some (.ptr 1 0)):
  Fits 4 [.yield 3,.ptr 0 0] [.row [.str s] 9 1,.row [.nilSlice] 22 1,.defd,lsL .ready none] [some (.yield 3),some (.ptr 0 0)] [.row [.str s] 9 1,.row [.nilSlice] 22 1,.defd,.loop .ready none 13 T2 {toList:=[7]} lsAs lsBd 2]:=by
 have hL:lsL .ready none=.loop .ready none 13 (kV .lf lsT) {toList:=[7]} lsAs lsBd 2:=by kernel_rfl
 refine⟨[0,1,2,3],[.yield 3,.ptr 0 0],rfl,rfl,FitsM.of ?_,by decide,fun i hi=>by
  match i,hi with
  |0,_|1,_|2,_|3,_=>rfl⟩
 refine⟨.inr ⟨_,.inl rfl,rfl⟩,.inr ⟨_,.inl rfl,rfl⟩,.inr ⟨_,.inl rfl,rfl⟩,.inr ⟨_,?_,rfl⟩,trivial⟩;rw[hL];refine .inr ⟨_,_,_,_,_,_,_,_,_,_,rfl,rfl,rfl,FitT.of fun t v hm=>?_⟩;simp only[lsT,List.mem_cons,Prod.mk.injEq,List.not_mem_nil,or_false]at hm;obtain⟨rfl,rfl⟩:=hm;exact⟨_,rfl,h2⟩
theorem labs_ok(args:List V)(l:Qx)(o:V×St)(h:labsT args=some l)(ho:aL l=some o):FnSat Qq 79 args [] (Is o):=by
 unfold labsT at h;split at h
 ·rename_i s;cases h;refine FnSat.fits (dX aA LS1_ok (lim:=9) (n:=10) ?_);rw[labs_tree];cases hm:mayN s with
  |false=>
   rw[hm]at ho;cases ho;exact aV [.nilSlice] rfl _ rfl _
  |true=>
   rw[hm]at ho;cases ho;have hl:=may_len hm;refine⟨ls_enter s _ rfl,aa (ag (show 0+s.length≤1000000 by omega)) (fun s'=>?_)⟩;exact⟨[4],[.slice 4 0 (lsN s []) false 0 0],rfl,rfl,FitsM.of ⟨.inr ⟨.row (lsC s []) 9 1,.inl (by simp only[renB,aC _ (br _),lsC]),rfl⟩,trivial⟩,by simp,fun i hi=>by omega⟩
 ·cases h
def lk73G(ML:Nat→Nat→List V→W8→W8):Nat→Trans→Trans:=ba 58 (bK 0 (szOf Qq 136) [2,3,4,5,13] mxDec kZ mxV mxJ (mxOutG ML)) (ah 9)
def lk73:Nat→Trans→Trans:=lk73G mixL
theorem mx_loop{f:Fr}{st:St}{Q:Exit→Fr→St→Prop}(h:bK 0 (szOf Qq 136) [2,3,4,5,13] mxDec kZ mxV mxJ mxOut f st Q):CodeSatW Qq none 0 (.loop (cO Qq 136 58)) f st Q:=
 bc (P:=Qq) (T:=T1) (k:=0) (lim:=9) (n:=10) (g:=136) (p0:=58) (lk:=ah 9) aA T1_ok (bf 9 _ _) mxMu mx_roundOk h
theorem lk73_ok:aQ Qq 0 lk73 136:=by
 unfold lk73 lk73G;exact bB (aY 9 0 136) (by kernel_rfl) fun f st Q h=>mx_loop h
def T2(ML:Nat→Nat→List V→W8→W8):Tab:=⟨addP noT 180 rotF,noL,cI (aT 9) 136 0 (lk73G ML)⟩
theorem T2_ok:TabOk3 Qq (T2 mixL):=⟨bg aJ rot_ok,aK,bq (au 9) lk73_ok⟩
def zr_0(a b c d e f g h:Int):=[V.int u32 a,V.int u32 b,V.int u32 c,V.int u32 d,V.int u32 e,V.int u32 f,V.int u32 g,V.int u32 h]
def zr_1:=[V.int u32 0,V.int u32 0,V.int u32 0,V.int u32 0,V.int u32 0,V.int u32 0,V.int u32 0,V.int u32 0]
theorem mix_tree(ML:Nat→Nat→List V→W8→W8)(a b c d e f g h:Int)(ws:List V)(R:V→St→Prop):runM Qq (T2 ML) 9 10 136 [.agg [.int .u32 a,.int .u32 b,.int .u32 c,.int .u32 d,.int .u32 e,.int .u32 f,.int .u32 g,.int .u32 h],.agg ws] R=
 (
 Fits 0 [.ptr 0 0,.ptr 1 0,.ptr 2 0,.ptr 3 0,.int i64 0] [.row (zr_0 a b c d e f g h) 174 8,.row ws 177 ws.length,.row zr_1 174 8,
 .row (zr_0 a b c d e f g h) 174 8] [some (.ptr 0 0),some (.ptr 1 0),some (.ptr 2 0),some (.ptr 3 0),some (.int i64 0)] [.row (zr_0 a b c d
 e f g h) 174 8,.row ws 177 ws.length,.row zr_1 174 8,.row (zr_0 a b c d e f g h) 174 8]∧bif kZ
 {x:={a:=a,b:=b,c:=c,d:=d,e:=e,f:=f,g:=g,h:=h},l:=ws,m:=ws.length,r:={a:=0,b:=0,c:=0,d:=0,e:=0,f:=0,g:=0,h:=0},was:={a:=a,b:=b,c:=c,d:=d,e:=e,f:=f,g:=g,h:=h},j:=0}
 then R (.agg [.int u32 (u32.wrap ((ML 64 0 ws {a:=a,b:=b,c:=c,d:=d,e:=e,f:=f,g:=g,h:=h}).a+a)),.int u32
 (u32.wrap ((ML 64 0 ws {a:=a,b:=b,c:=c,d:=d,e:=e,f:=f,g:=g,h:=h}).b+b)),.int u32 (u32.wrap ((ML 64 0 ws
 {a:=a,b:=b,c:=c,d:=d,e:=e,f:=f,g:=g,h:=h}).c+c)),.int u32 (u32.wrap ((ML 64 0 ws
 {a:=a,b:=b,c:=c,d:=d,e:=e,f:=f,g:=g,h:=h}).d+d)),.int u32 (u32.wrap ((ML 64 0 ws
 {a:=a,b:=b,c:=c,d:=d,e:=e,f:=f,g:=g,h:=h}).e+e)),.int u32 (u32.wrap ((ML 64 0 ws
 {a:=a,b:=b,c:=c,d:=d,e:=e,f:=f,g:=g,h:=h}).f+f)),.int u32 (u32.wrap ((ML 64 0 ws
 {a:=a,b:=b,c:=c,d:=d,e:=e,f:=f,g:=g,h:=h}).g+g)),.int u32 (u32.wrap ((ML 64 0 ws
 {a:=a,b:=b,c:=c,d:=d,e:=e,f:=f,g:=g,h:=h}).h+h))]) [.row [.int u32 (u32.wrap ((ML 64 0 ws
 {a:=a,b:=b,c:=c,d:=d,e:=e,f:=f,g:=g,h:=h}).a+a)),.int u32 (u32.wrap ((ML 64 0 ws
 {a:=a,b:=b,c:=c,d:=d,e:=e,f:=f,g:=g,h:=h}).b+b)),.int u32 (u32.wrap ((ML 64 0 ws
 {a:=a,b:=b,c:=c,d:=d,e:=e,f:=f,g:=g,h:=h}).c+c)),.int u32 (u32.wrap ((ML 64 0 ws
 {a:=a,b:=b,c:=c,d:=d,e:=e,f:=f,g:=g,h:=h}).d+d)),.int u32 (u32.wrap ((ML 64 0 ws
 {a:=a,b:=b,c:=c,d:=d,e:=e,f:=f,g:=g,h:=h}).e+e)),.int u32 (u32.wrap ((ML 64 0 ws
 {a:=a,b:=b,c:=c,d:=d,e:=e,f:=f,g:=g,h:=h}).f+f)),.int u32 (u32.wrap ((ML 64 0 ws
 {a:=a,b:=b,c:=c,d:=d,e:=e,f:=f,g:=g,h:=h}).g+g)),.int u32 (u32.wrap ((ML 64 0 ws
 {a:=a,b:=b,c:=c,d:=d,e:=e,f:=f,g:=g,h:=h}).h+h))] 174 8,.row ws 177 ws.length,.row [.int u32 (u32.wrap ((ML
 64 0 ws {a:=a,b:=b,c:=c,d:=d,e:=e,f:=f,g:=g,h:=h}).a+a)),.int u32 (u32.wrap ((ML 64 0 ws
 {a:=a,b:=b,c:=c,d:=d,e:=e,f:=f,g:=g,h:=h}).b+b)),.int u32 (u32.wrap ((ML 64 0 ws
 {a:=a,b:=b,c:=c,d:=d,e:=e,f:=f,g:=g,h:=h}).c+c)),.int u32 (u32.wrap ((ML 64 0 ws
 {a:=a,b:=b,c:=c,d:=d,e:=e,f:=f,g:=g,h:=h}).d+d)),.int u32 (u32.wrap ((ML 64 0 ws
 {a:=a,b:=b,c:=c,d:=d,e:=e,f:=f,g:=g,h:=h}).e+e)),.int u32 (u32.wrap ((ML 64 0 ws
 {a:=a,b:=b,c:=c,d:=d,e:=e,f:=f,g:=g,h:=h}).f+f)),.int u32 (u32.wrap ((ML 64 0 ws
 {a:=a,b:=b,c:=c,d:=d,e:=e,f:=f,g:=g,h:=h}).g+g)),.int u32 (u32.wrap ((ML 64 0 ws
 {a:=a,b:=b,c:=c,d:=d,e:=e,f:=f,g:=g,h:=h}).h+h))] 174 8,.row (zr_0 a b c d e f g h) 174 8]else False):=by kernel_rfl
def mixE(x:W8)(ws:List V):W8:=⟨addI (mixL 64 0 ws x).a x.a,addI (mixL 64 0 ws x).b x.b,addI (mixL 64 0 ws x).c x.c,addI (mixL 64 0 ws x).d x.d,addI (mixL 64 0 ws x).e x.e,addI (mixL 64 0 ws x).f x.f,addI (mixL 64 0 ws x).g x.g,addI (mixL 64 0 ws x).h x.h⟩
def mixF:List V→Option (Qx)
 |[.agg [.int .u32 a,.int .u32 b,.int .u32 c,.int .u32 d,.int .u32 e,.int .u32 f,.int .u32 g,.int .u32 h],.agg ws]=>some [(c8 ws&&Nat.beq ws.length 64,(.agg (mixE ⟨a,b,c,d,e,f,g,h⟩ ws).cells,[]))]
 |_=>none
theorem mix_ok(args:List V)(l:Qx)(o:V×St)(h:mixF args=some l)(ho:aL l=some o):FnSat Qq 136 args [] (Is o):=by
 unfold mixF at h;split at h
 ·rename_i a b c d e f g h' ws;cases h;cases hc:(c8 ws&&Nat.beq ws.length 64)with
  |false=>rw[hc]at ho;cases ho
  |true=>
   rw[hc]at ho;cases ho;rw[ad]at hc;refine FnSat.fits (dX (lim:=9) (n:=10) aA T2_ok ?_);rw[mix_tree];unfold zr_1 zr_0;refine⟨tT ⟨a,b,c,d,e,f,g,h'⟩ ws hc.1 ws.length ⟨0,0,0,0,0,0,0,0⟩ ⟨a,b,c,d,e,f,g,h'⟩ 0,aa ?_ ?_⟩
   ·unfold kZ;rw[ad,ad];exact⟨hc.1,hc.2,rfl⟩
   ·exact⟨[],[.agg (mixE ⟨a,b,c,d,e,f,g,h'⟩ ws).cells],rfl,rfl,FitsM.of trivial,by simp,fun i hi=>by omega⟩
 ·cases h
def zr_2(ws:List V)(j:Int):=ws.getD (0+(i64.wrap (j-15)).toNat*1) (V.bool false)
def zr_3(ws:List V)(j:Int):=ws.getD (0+(i64.wrap (j-2)).toNat*1) (V.bool false)
theorem blk_round(la:List V)(off c z:Nat)(ws:List V)(j:Int)(R:Qz):al Qq T1 9 10 (ah 9) 137 26 [0,2,6] [.slice 0 off 64 false c z,.ptr 1 0,.int .i64 j] [.ro false la,.row ws 177 64] R=
 (
 bif decide (j<64)then bif decide (j<16)then bif decide (0≤i64.wrap (4*j))&&decide (i64.wrap (4*j)<64)then bif (off+
 (i64.wrap (4*j)).toNat*1).blt la.length then bif ao u8 (la.getD (off+(i64.wrap (4*j)).toNat*1) (.bool false))then bif
 decide (0≤i64.wrap (i64.wrap (4*j)+1))&&decide (i64.wrap (i64.wrap (4*j)+1)<64)then bif (off+(i64.wrap
 (i64.wrap (4*j)+1)).toNat*1).blt la.length then bif ao u8 (la.getD (off+(i64.wrap (i64.wrap (4*j)+1)).toNat*1)
 (.bool false))then bif decide (0≤i64.wrap (i64.wrap (4*j)+2))&&decide (i64.wrap (i64.wrap (4*j)+2)<64)then bif
 (off+(i64.wrap (i64.wrap (4*j)+2)).toNat*1).blt la.length then bif ao u8 (la.getD (off+(i64.wrap (i64.wrap
 (4*j)+2)).toNat*1) (.bool false))then bif decide (0≤i64.wrap (i64.wrap (4*j)+3))&&decide (i64.wrap (i64.wrap (4*
 j)+3)<64)then bif (off+(i64.wrap (i64.wrap (4*j)+3)).toNat*1).blt la.length then bif ao u8 (la.getD (off+
 (i64.wrap (i64.wrap (4*j)+3)).toNat*1) (.bool false))then bif decide (0≤j)&&decide (j<64)then bif true&&(0+j.toNat*1+
 1).ble ws.length then R .normal [some (.slice 0 off 64 false c z),some (.ptr 1 0),some (.int i64 (i64.wrap (j+1)))] [.ro false la,
 .row (eH (0+j.toNat*1) [.int u32 (u32.wrap (↑(BitVec.ofInt 32 (u32.wrap (↑(BitVec.ofInt 32 (u32.wrap (↑(BitVec.ofInt
 32 (u32.wrap (u32.wrap (aq (la.getD (off+(i64.wrap (4*j)).toNat*1) (.bool false)))*16777216))|||BitVec.ofInt 32
 (u32.wrap (u32.wrap (aq (la.getD (off+(i64.wrap (i64.wrap (4*j)+1)).toNat*1) (.bool false)))*65536))).toNat:
 Int))|||BitVec.ofInt 32 (u32.wrap (u32.wrap (aq (la.getD (off+(i64.wrap (i64.wrap (4*j)+2)).toNat*1) (.bool
 false)))*256))).toNat:Int))|||BitVec.ofInt 32 (u32.wrap (aq (la.getD (off+(i64.wrap (i64.wrap (4*j)+3)).toNat*1)
 (.bool false))))).toNat:Int))] ws) 177 64]else False else False else False else False else False else False else False else False else False else False else
 False else False else False else False else bif decide (0≤i64.wrap (j-15))&&decide (i64.wrap (j-15)<64)then bif (0+(i64.wrap
 (j-15)).toNat*1).blt ws.length then bif ao u32 (zr_2 ws j)then bif decide (0≤i64.wrap (j-2))&&decide (i64.wrap (j-2)<
 64)then bif (0+(i64.wrap (j-2)).toNat*1).blt ws.length then bif ao u32 (zr_3 ws j)then bif decide (0≤i64.wrap (j-16))&&
 decide (i64.wrap (j-16)<64)then bif (0+(i64.wrap (j-16)).toNat*1).blt ws.length then bif ao u32 (ws.getD (0+
 (i64.wrap (j-16)).toNat*1) (.bool false))then bif decide (0≤i64.wrap (j-7))&&decide (i64.wrap (j-7)<64)then bif (0+
 (i64.wrap (j-7)).toNat*1).blt ws.length then bif ao u32 (ws.getD (0+(i64.wrap (j-7)).toNat*1) (.bool false))then bif
 decide (0≤j)&&decide (j<64)then bif true&&(0+j.toNat*1+1).ble ws.length then R .normal [some (.slice 0 off 64 false c z),some (.ptr 1 0),
 some (.int i64 (i64.wrap (j+1)))] [.ro false la,.row (eH (0+j.toNat*1) [.int u32 (u32.wrap (u32.wrap
 (u32.wrap (aq (ws.getD (0+(i64.wrap (j-16)).toNat*1) (.bool false))+aq (ws.getD (0+(i64.wrap (j-7)).toNat*1)
 (.bool false)))+u32.wrap (↑(BitVec.ofInt 32 (u32.wrap (↑(BitVec.ofInt 32 (rotI (aq (zr_2 ws j)) 7)^^^BitVec.ofInt 32 (rotI (aq (zr_2
 ws j)) 18)).toNat:Int))^^^BitVec.ofInt 32 ((aq (zr_2 ws j)).fdiv 8)).toNat:Int))+u32.wrap (↑(BitVec.ofInt 32 (u32.wrap
 (↑(BitVec.ofInt 32 (rotI (aq (zr_3 ws j)) 17)^^^BitVec.ofInt 32 (rotI (aq (zr_3 ws j)) 19)).toNat:Int))^^^BitVec.ofInt 32 ((aq (zr_3 ws
 j)).fdiv 1024)).toNat:Int)))] ws) 177 64]else False else False else False else False else False else False else False else False else False else False else
 False else False else False else False else R (.exit 0) [some (.slice 0 off 64 false c z),some (.ptr 1 0),some (.int i64 j)] [.ro false la,
 .row ws 177 64]):=by kernel_rfl
def okB(la:List V)(off:Nat):Bool:=aM la&&(Nat.ble (off+64) la.length&&((la.drop off).take 64).all (ao .u8))
theorem okB_len{la:List V}{off:Nat}(h:okB la off=true):off+64≤la.length:=by
 unfold okB at h;rw[ad,ad]at h;exact aw h.2.1
theorem mG{la:List V}{off:Nat}(h:okB la off=true):aM la=true:=by
 unfold okB at h;rw[ad]at h;exact h.1
theorem gx{la:List V}{off i:Nat}(h:okB la off=true)(hi:i<64):(off+i*1).blt la.length=true∧ao .u8 (la.getD (off+i*1) (.bool false))=true:=by
 have hl:=okB_len h;unfold okB at h;rw[ad,ad]at h;have h2:=h.2.2;clear h;rw[Nat.mul_one];refine⟨ag (by omega),?_⟩;have hlt:off+i<la.length:=by omega
 rw[bX,List.getElem?_eq_getElem hlt];refine List.all_eq_true.1 h2 _ ?_;rw[List.mem_iff_getElem?];exact⟨i,by rw[List.getElem?_take,if_pos hi,List.getElem?_drop];exact List.getElem?_eq_getElem hlt⟩
def bI(la:List V)(off i:Nat):Int:=aq (la.getD (off+i*1) (.bool false))
def shI(b m:Int):Int:=u32.wrap (u32.wrap b*m)
def gU(la:List V)(off j:Nat):Int:=orI (orI (orI (shI (bI la off (4*j)) 16777216) (shI (bI la off (4*j+1)) 65536)) (shI (bI la off (4*j+2)) 256)) (u32.wrap (bI la off (4*j+3)))
def iQ(ws:List V)(j:Nat):Int:=addI (addI (addI (wI ws (j-16)) (wI ws (j-7))) (xorI (xorI (rotI (wI ws (j-15)) 7) (rotI (wI ws (j-15)) 18)) ((wI ws (j-15)).fdiv 8))) (xorI (xorI (rotI (wI ws (j-2)) 17) (rotI (wI ws (j-2)) 19)) ((wI ws (j-2)).fdiv 1024))
def kR(la:List V)(off:Nat)(ws:List V)(j:Nat):Int:=if j<16 then gU la off j else iQ ws j
def blkL(la:List V)(off:Nat):Nat→Nat→List V→List V
 |0,_,ws=>ws
 |n+1,j,ws=>blkL la off n (j+1) (eH j [.int .u32 (kR la off ws j)] ws)
theorem put_all32{ws:List V}{j:Nat}{x:Int}(h:c8 ws=true)(hj:j<ws.length):c8 (eH j [.int .u32 x] ws)=true∧(eH j [.int .u32 x] ws).length=ws.length:=by
 unfold c8 at h ⊢;rw[List.all_eq_true]at h ⊢;refine⟨fun v hv=>?_,?_⟩
 ·unfold eH at hv;rcases List.mem_append.1 hv with hv|hv
  ·rcases List.mem_append.1 hv with hv|hv
   ·exact h v (List.mem_of_mem_take hv)
   ·rw[List.mem_singleton.1 hv];rfl
  ·exact h v (List.mem_of_mem_drop hv)
 ·unfold eH;simp only[bQ,List.length_take,List.length_drop,bi,List.length_nil];omega
def df(f:Nat→Int):List V:=[.int .u32 (f 0),.int .u32 (f 1),.int .u32 (f 2),.int .u32 (f 3),.int .u32 (f 4),.int .u32 (f 5),.int .u32 (f 6),.int .u32 (f 7),.int .u32 (f 8),.int .u32 (f 9),.int .u32 (f 10),.int .u32 (f 11),.int .u32 (f 12),.int .u32 (f 13),.int .u32 (f 14),.int .u32 (f 15),.int .u32 (f 16),.int .u32 (f 17),.int .u32 (f 18),.int .u32 (f 19),.int .u32 (f 20),.int .u32 (f 21),.int .u32 (f 22),.int .u32 (f 23),.int .u32 (f 24),.int .u32 (f 25),.int .u32 (f 26),.int .u32 (f 27),.int .u32 (f 28),.int .u32 (f 29),.int .u32 (f 30),.int .u32 (f 31),.int .u32 (f 32),.int .u32 (f 33),.int .u32 (f 34),.int .u32 (f 35),.int .u32 (f 36),.int .u32 (f 37),.int .u32 (f 38),.int .u32 (f 39),.int .u32 (f 40),.int .u32 (f 41),.int .u32 (f 42),.int .u32 (f 43),.int .u32 (f 44),.int .u32 (f 45),.int .u32 (f 46),.int .u32 (f 47),.int .u32 (f 48),.int .u32 (f 49),.int .u32 (f 50),.int .u32 (f 51),.int .u32 (f 52),.int .u32 (f 53),.int .u32 (f 54),.int .u32 (f 55),.int .u32 (f 56),.int .u32 (f 57),.int .u32 (f 58),.int .u32 (f 59),.int .u32 (f 60),.int .u32 (f 61),.int .u32 (f 62),.int .u32 (f 63)]
theorem cells64_map(f:Nat→Int):df f=(List.range 64).map fun i=>V.int .u32 (f i):=by kernel_rfl
theorem qH{ws:List V}(h:c8 ws=true)(hl:ws.length=64):df (wI ws)=ws:=by
 rw[cells64_map];apply List.ext_getElem?;intro i;rcases Nat.lt_or_ge i 64 with hi|hi
 ·rw[List.getElem?_map,List.getElem?_range hi,Option.map_some];have h1:=dQ h (j:=i) (by omega);unfold wI;rw[bX,List.getElem?_eq_getElem (by omega),Option.getD_some]at h1 ⊢;cases hv:ws[i]with
  |int k n=>
   rw[hv]at h1;have hk:k=.u32:=aN h1;subst hk;rfl
  |_=>rw[hv]at h1;cases h1
 ·rw[List.getElem?_eq_none (by simp;omega),List.getElem?_eq_none (by omega)]
def blkF(la:List V)(off n j:Nat)(ws:List V):Nat→Int:=wI (blkL la off n j ws)
structure BX where
 la:List V
 off:Nat
 c:Nat
 z:Nat
 ws:List V
 j:Nat
def bxV(y:BX):List V:=[.slice 0 y.off 64 false y.c y.z,.ptr 1 0,.int .i64 y.j]
def bxJ(y:BX):St:=[.ro false y.la,.row y.ws 177 64]
def m8(y:BX):Bool:=okB y.la y.off&&(c8 y.ws&&(Nat.beq y.ws.length 64&&Nat.ble y.j 64))
def bxMu(y:BX):Nat:=64-y.j
def bxOutG(BL:List V→Nat→Nat→Nat→List V→Nat→Int):Asks BX:=fun y K=>K (.exit 0) [.slice 0 y.off 64 false y.c y.z,.ptr 1 0,.int .i64 64] [.ro false y.la,Blk.row (df (BL y.la y.off (64-y.j) y.j y.ws)) 177 64]
abbrev bxOut:Asks BX:=bxOutG blkF
theorem uy(la:List V)(hf:aM la=true)(off c z:Nat)(ws:List V)(hw:c8 ws=true)(j:Int):Fits 1 [.slice 0 off 64 false c z,.ptr 1 0,.int .i64 j] [.ro false la,.row ws 177 64]
  [some (.slice 0 off 64 false c z),some (.ptr 1 0),some (.int .i64 j)] [.ro false la,.row ws 177 64]:=
 ⟨[0,1],[.slice 0 off 64 false c z,.ptr 1 0,.int .i64 j],rfl,rfl,FitsM.of ⟨.inr ⟨.ro false la,.inl (by simp only[renB,aC la hf]),rfl⟩,.inr ⟨.row ws 177 64,.inl (by simp only[renB,nU _ ws hw]),rfl⟩,trivial⟩,by decide,fun i hi=>by
   match i,hi with
   |0,_=>rfl⟩
theorem bx_roundOk(y:BX)(hy:m8 y=true):al Qq T1 9 10 (ah 9) 137 26 [0,2,6] (bxV y) (bxJ y) (aD 1 m8 bxV bxJ bxMu bxOut y):=by
 obtain⟨la,off,c,z,ws,j⟩:=y;unfold m8 at hy;rw[ad,ad,ad]at hy;have p0:okB la off=true:=hy.1;have p1:c8 ws=true:=hy.2.1;have p2:ws.length=64:=aP hy.2.2.1;have p3:j≤64:=aw hy.2.2.2;clear hy;have hf:=mG p0;show al Qq T1 9 10 (ah 9) 137 26 [0,2,6] [.slice 0 off 64 false c z,.ptr 1 0,.int .i64 j] [.ro false la,.row ws 177 64] _;rw[blk_round];unfold zr_3 zr_2;cases hb:decide ((j:Int)<64)with
 |true=>
  have hj:j<64:=by have:=aN hb;omega
  have e1:i64.wrap ((j:Int)+1)=((j+1:Nat):Int):=by rw[IntWalk.i64_in _ ⟨by omega,by omega⟩];omega
  have d1:decide ((0:Int)≤(j:Int))=true:=am (by omega);have d2:(true&&(0+j*1+1).ble ws.length)=true:=by rw[aH];exact ag (by omega)
  have e0:0+j*1=j:=by omega
  -- what stands behind a round
  have fin:∀x:Int,x=kR la off ws j→aD 1 m8 bxV bxJ bxMu bxOut ⟨la,off,c,z,ws,j⟩ .normal [some (.slice 0 off 64 false c z),some (.ptr 1 0),some (.int .i64 ((j+1:Nat):Int))] [.ro false la,.row (eH j [.int .u32 x] ws) 177 64]:=by
   intro x hx;have hp:=put_all32 (x:=x) p1 (j:=j) (by omega);refine⟨⟨la,off,c,z,eH j [.int .u32 x] ws,j+1⟩,?_,uy la hf off c z _ hp.1 _,by simp only[bxMu];omega,fun K hK=>?_⟩
   ·unfold m8;rw[ad,ad,ad];exact⟨p0,hp.1,by rw[hp.2,p2];rfl,ag hj⟩
   ·have hK:K _ _ _:=hK;have h64:64-j=(64-(j+1))+1:=by omega
    rw[h64]at hK;rw[hx];exact hK
  cases hb2:decide ((j:Int)<16)with
  |true=>
   have hj2:j<16:=by have:=aN hb2;omega
   have w0:i64.wrap (4*(j:Int))=((4*j:Nat):Int):=by rw[IntWalk.i64_in _ ⟨by omega,by omega⟩];omega
   have w1:i64.wrap (((4*j:Nat):Int)+1)=((4*j+1:Nat):Int):=by rw[IntWalk.i64_in _ ⟨by omega,by omega⟩];omega
   have w2:i64.wrap (((4*j:Nat):Int)+2)=((4*j+2:Nat):Int):=by rw[IntWalk.i64_in _ ⟨by omega,by omega⟩];omega
   have w3:i64.wrap (((4*j:Nat):Int)+3)=((4*j+3:Nat):Int):=by rw[IntWalk.i64_in _ ⟨by omega,by omega⟩];omega
   rw[w0,w1,w2,w3,e1];simp only[bp];rw[d1,d2,e0];have k:∀i:Nat,i<64→(decide ((0:Int)≤(i:Int))&&decide ((i:Int)<64))=true:=fun i hi=>by
    rw[ad];exact⟨am (by omega),am (by omega)⟩
   rw[ae,ae];refine aa (k _ (by omega)) (aa (gx p0 (by omega)).1 (aa (gx p0 (by omega)).2 ?_));refine aa (k _ (by omega)) (aa (gx p0 (by omega)).1 (aa (gx p0 (by omega)).2 ?_));refine aa (k _ (by omega)) (aa (gx p0 (by omega)).1 (aa (gx p0 (by omega)).2 ?_));refine aa (k _ (by omega)) (aa (gx p0 (by omega)).1 (aa (gx p0 (by omega)).2 ?_));refine aa rfl ?_;exact fin _ (by unfold kR;rw[if_pos hj2];rfl)
  |false=>
   have hj2:¬j<16:=by have:=bk hb2;omega
   have w15:i64.wrap ((j:Int)-15)=((j-15:Nat):Int):=by rw[IntWalk.i64_in _ ⟨by omega,by omega⟩];omega
   have w2:i64.wrap ((j:Int)-2)=((j-2:Nat):Int):=by rw[IntWalk.i64_in _ ⟨by omega,by omega⟩];omega
   have w16:i64.wrap ((j:Int)-16)=((j-16:Nat):Int):=by rw[IntWalk.i64_in _ ⟨by omega,by omega⟩];omega
   have w7:i64.wrap ((j:Int)-7)=((j-7:Nat):Int):=by rw[IntWalk.i64_in _ ⟨by omega,by omega⟩];omega
   rw[w15,w2,w16,w7,e1];simp only[bp];have s0:∀i:Nat,0+i*1=i:=fun i=>by omega
   simp only[s0];rw[d1];have d2':(true&&(j+1).ble ws.length)=true:=by rw[aH];exact ag (by omega)
   rw[d2',ae,ak];have k:∀i:Nat,i<64→(decide ((0:Int)≤(i:Int))&&decide ((i:Int)<64))=true:=fun i hi=>by
    rw[ad];exact⟨am (by omega),am (by omega)⟩
   have q:∀i:Nat,i<64→i.blt ws.length=true:=fun i hi=>ag (by omega);refine aa (k _ (by omega)) (aa (q _ (by omega)) (aa (dQ p1 (by omega)) ?_));refine aa (k _ (by omega)) (aa (q _ (by omega)) (aa (dQ p1 (by omega)) ?_));refine aa (k _ (by omega)) (aa (q _ (by omega)) (aa (dQ p1 (by omega)) ?_));refine aa (k _ (by omega)) (aa (q _ (by omega)) (aa (dQ p1 (by omega)) ?_));refine aa rfl ?_;exact fin _ (by unfold kR;rw[if_neg hj2];rfl)
 |false=>
  have hj:j=64:=by have:=bk hb;omega
  subst hj;refine⟨_,_,fun K hK=>hK,?_⟩;show Fits 1 _ [Blk.ro false la,Blk.row (df (wI ws)) 177 64] _ _;rw[qH p1 p2];exact uy la hf off c z ws p1 64
def bxDec:List (Option V)→St→Option BX
 |[some (.slice 0 off 64 false c z),some (.ptr 1 0),some (.int .i64 0)],.ro false la::.row ws _ _::_=>some ⟨la,off,c,z,ws,0⟩
 |_,_=>none
def lk74G(BL:List V→Nat→Nat→Nat→List V→Nat→Int):Nat→Trans→Trans:=ba 26 (bK 1 (szOf Qq 137) [0,2,6] bxDec m8 bxV bxJ (bxOutG BL)) (ah 9)
theorem bx_loop{f:Fr}{st:St}{Q:Exit→Fr→St→Prop}(h:bK 1 (szOf Qq 137) [0,2,6] bxDec m8 bxV bxJ bxOut f st Q):CodeSatW Qq none 1 (.loop (cO Qq 137 26)) f st Q:=
 bc (P:=Qq) (T:=T1) (k:=1) (lim:=9) (n:=10) (g:=137) (p0:=26) (lk:=ah 9) aA T1_ok (bf 9 _ _) bxMu bx_roundOk h
theorem lk74_ok:aQ Qq 1 (lk74G blkF) 137:=by
 unfold lk74G;exact bB (aY 9 1 137) (by kernel_rfl) fun f st Q h=>bx_loop h
def lookK(g:Nat)(lk:Nat→Trans→Trans)(args:List V)(st:St)(R:V→St→Prop):Prop:=fnK Qq (cqT Qq T1 9 10) (KG Qq T1 9 10) lk g args st R
theorem lookK_ok{g:Nat}{lk:Nat→Trans→Trans}{args:List V}{st:St}{R:V→St→Prop}(hl:aQ Qq st.length lk g)(h:lookK g lk args st R):FnSat Qq g args st R:=
 kB aA (lV aA T1_ok 9 10) (oL aA T1_ok 10) hl h
def eq:List V:=df fun _=>0
theorem blk_tree(BL:List V→Nat→Nat→Nat→List V→Nat→Int)(la:List V)(off c z:Nat)(R:V→St→Prop):lookK 137 (lk74G BL) [.slice 0 off 64 false c z] [.ro false la] R=
  (
 Fits 1 [.slice 0 off 64 false c z,.ptr 1 0,.int i64 0] [.ro false la,.row eq 177 64] [some (.slice 0 off 64 false c z),some (.ptr 1 0),some
 (.int i64 0)] [.ro false la,.row eq 177 64]∧bif m8 {la:=la,off:=off,c:=c,z:=z,ws:=eq,j:=0}then R (.agg (df (BL la
 off 64 0 eq))) [.ro false la,.row (df (BL la off 64 0 eq)) 177 64]else False):=by kernel_rfl
def blkG:List V→St→Option (Qx)
 |[.slice 0 off 64 false c z],[.ro false la]=>some [(okB la off,(.agg (df (blkF la off 64 0 eq)),[]))]
 |_,_=>none
theorem blk_ok(args:List V)(s:St)(l:Qx)(v:V)(n:St)(h:blkG args s=some l)(ho:aL l=some (v,n)):(∀b∈s,aM b.cs=true)∧FnSat Qq 137 args s (fun u st=>Fits 0 [v] n [some u] st):=by
 unfold blkG at h;split at h
 ·rename_i off c z la;cases h;cases hk:okB la off with
  |false=>rw[hk]at ho;cases ho
  |true=>
   rw[hk]at ho;cases ho;refine⟨by simp[Blk.cs,mG hk],lookK_ok (lk:=lk74G blkF) lk74_ok ?_⟩;rw[blk_tree];refine⟨uy la (mG hk) off c z eq rfl 0,aa ?_ ?_⟩
   ·unfold m8;rw[ad,ad,ad];exact⟨hk,rfl,rfl,rfl⟩
   ·exact⟨[],[.agg (df (blkF la off 64 0 eq))],rfl,rfl,FitsM.of trivial,by simp,fun i hi=>by omega⟩
 ·cases h
end Go.Proofs.YtebkeppoicllmaaGreatDoor
namespace Go.Proofs.YtebkeppoicllmaaGreatDoor
open Go Go.Vm Go.RowKit
variable [Φ:Frz]
def T3:Tab:=⟨noT,noL,aT 9⟩
theorem qS:TabOk3 Qq T3:=⟨aJ,aK,au 9⟩
def okL(s:List UInt8):Bool:=decide ((s.length:Int)≤99999)
theorem okL_le{s:List UInt8}(h:okL s=true):(s.length:Int)≤99999:=aN h
def lookW(T:Tab)(g:Nat)(args:List V)(st:St)(R:V→St→Prop):Prop:=fnK Qq (cqT Qq T 9 10) (KG Qq T 9 10) (T.lks g st.length) g args st R
theorem lookW_ok{T:Tab}(hT:TabOk3 Qq T){g:Nat}{args:List V}{st:St}{R:V→St→Prop}(h:lookW T g args st R):FnSat Qq g args st R:=
 kB aA (lV aA hT 9 10) (oL aA hT 10) (hT.lks g st.length) h
end Go.Proofs.YtebkeppoicllmaaGreatDoor
namespace Go.Vm
open Go.RowKit
variable [Φ:Frz]
def bys(l:List UInt8):List V:=l.map fun b=>.int .u8 (b.toNat:Int)
theorem bys_len(l:List UInt8):(bys l).length=l.length:=by unfold bys;rw[cg]
theorem bys_flat:∀l:List UInt8,aM (bys l)=true
 |[]=>rfl
 |c::r=>by
  have ih:=bys_flat r;unfold bys at ih ⊢;rw[List.map_cons,aM,ih];rfl
theorem fb{σ:List Nat}{st:St}{c:Nat}{cs:List V}{t:TypeId}{sz:Nat}(h:aM cs=true)(hc:st[c]?=some (.row cs t sz)):Blk.row cs t sz=.dead∨∃b',FitB σ (.row cs t sz) b'∧st[c]?=some b':=
 .inr ⟨.row cs t sz,.inl (by simp only[renB,aC _ h]),hc⟩
end Go.Vm
namespace Go.Vm
open Go.RowKit
variable [Φ:Frz]
theorem fA{s r:List UInt8}{i:Nat}{a:UInt8}(h:s.drop i=a::r):s.getD i 0=a∧s.drop (i+1)=r∧i<s.length:=by
 have hl:i<s.length:=by
  have:(s.drop i).length=(a::r).length:=by rw[h]
  rw[List.length_drop,bi]at this;omega
 rw[List.drop_eq_getElem_cons hl]at h;cases h;exact⟨by rw[bX,List.getElem?_eq_getElem hl,Option.getD_some],rfl,hl⟩
theorem ii{s:List UInt8}{i:Nat}(h:s.drop i=[])(hi:i≤s.length):i=s.length:=by
 have:(s.drop i).length=0:=by rw[h];rfl
 rw[List.length_drop]at this;omega
theorem bys_ln(o:List UInt8):(List.map (fun b:UInt8=>V.int .u8 (b.toNat:Int)) o).length=o.length:=cg ..
end Go.Vm
namespace Go.Proofs.YtebkeppoicllmaaGreatDoor
open Go.IntKind (u8 u16 u32 u64 i8 i16 i32 i64)
open Go Go.Vm Go.RowKit
variable [Φ:Frz]
def HC0:Tab:=⟨addT (addP (addP noT 78 cpP) 73 matchP) 79 labsT,noL,aT 9⟩
theorem HC0_ok:TabOk3 Qq HC0:=⟨aR (bg (bg aJ cp_ok) match_ok) labs_ok,aK,au 9⟩
theorem hc_tree(s h:List UInt8)(R:V→Prop):lookW HC0 77 [.str s,.ptr 0 0] [.ro false [.str h]] (fun v _=>R v)=
  (
 bif gn s h then bif !eY s then R (.bool true)else bif mayN (cV s)then R (.bool (decide ((↑(lsN (cV s) []):Int)>1)))else bif !mayN (cV s)then R
 (.bool false)else False else R (.bool false)):=by kernel_rfl
def eZ(s h:List UInt8):Bool:=gn s h&&(!eY s||decide ((lsN (cV s) []:Int)>1))
def hcL:List V→St→Option (Bool×V)
 |[.str s,.ptr 0 0],[.ro false [.str h]]=>some (true,.bool (eZ s h))
 |_,_=>none
theorem match_pat{p s:List UInt8}(h:gn p s=true):mayN (cV p)=true:=by
 unfold gn at h;rw[ad]at h;exact h.1
theorem hcL_ok(args:List V)(s:St)(v:V)(h:hcL args s=some (true,v)):v.flat=true∧(∀b∈s,aM b.cs=true)∧FnSat Qq 77 args s (fun u _=>u=v):=by
 unfold hcL at h;split at h
 ·rename_i s h;cases h;refine⟨rfl,by simp[Blk.cs,aM,V.flat],lookW_ok HC0_ok ?_⟩;rw[hc_tree];unfold eZ;cases h1:gn s h with
  |false=>rfl
  |true=>
   rw[match_pat h1];cases eY s<;>rfl
 ·cases h
def HX0:Tab:=⟨noT,addL noL 77 hcL,aT 9⟩
theorem HX0_ok:TabOk3 Qq HX0:=⟨aJ,addL_ok aK hcL_ok,au 9⟩
theorem hx_round(x:Value)(n:Nat)(cs:List V)(h:List UInt8)(i:Int)(R:Qz):al Qq HX0 9 10 (ah 9) 129 26 [0,1,4,7,8] [.lst x n cs,.func (.func 77) [] [.ptr 1 0],.int .i64 0,.int .i64 n,.int .i64 i] [.dead,.row [.str h] 9 1] R=
  (
 bif decide (i<(↑n:Int))then bif decide (0≤i)&&decide (i<(↑n:Int))then bif (i.toNat*1).blt cs.length then bif ar (cs.getD (i.toNat*1) (.bool false))
 then bif eZ (ab (cs.getD (i.toNat*1) (.bool false))) h then R .ret [some (.lst x n cs),some (V.func (Fn.func 77) [] [.ptr 1 0]),some (.int i64
 i),some (.int i64 (↑n:Int)),some (.int i64 i)] [.dead,.row [.str h] 9 1]else R .normal [some (.lst x n cs),some (V.func (Fn.func 77)
 [] [.ptr 1 0]),some (.int i64 0),some (.int i64 (↑n:Int)),some (.int i64 (i64.wrap (i+1)))] [.dead,.row [.str h] 9 1]
 else False else False else False else R (.exit 0) [some (.lst x n cs),some (V.func (Fn.func 77) [] [.ptr 1 0]),some (.int i64 0),some (.int i64
 (↑n:Int)),some (.int i64 i)] [.dead,.row [.str h] 9 1]):=by kernel_rfl
structure HX where
 x:Value
 n:Nat
 cs:List V
 h:List UInt8
 i:Nat
def hxV(y:HX):List V:=[.lst y.x y.n y.cs,.func (.func 77) [] [.ptr 1 0],.int .i64 0,.int .i64 y.n,.int .i64 y.i]
def hxJ(y:HX):St:=[.dead,.row [.str y.h] 9 1]
def qn(y:HX):Bool:=okS y.n y.cs&&Nat.ble y.i y.n
def hxMu(y:HX):Nat:=y.n-y.i
def hxDec:List (Option V)→St→Option HX
 |[some (.lst x n cs),some (.func (.func 77) [] [.ptr 1 0]),some (.int .i64 0),some (.int .i64 _),some (.int .i64 0)],_::.row [.str h] _ _::_=>some ⟨x,n,cs,h,0⟩
 |_,_=>none
def anyH(cs:List V)(h:List UInt8):Bool:=(cs.map ab).any fun s=>eZ s h
def uh(x:Value)(n:Nat)(cs:List V)(h:List UInt8)(b:Bool)(K:Exit→List V→St→Prop):Prop:=
 bif b then ∀i:Nat,K .ret [.lst x n cs,.func (.func 77) [] [.ptr 1 0],.int .i64 i,.int .i64 n,.int .i64 i] [.dead,.row [.str h] 9 1]else K (.exit 0) [.lst x n cs,.func (.func 77) [] [.ptr 1 0],.int .i64 0,.int .i64 n,.int .i64 n] [.dead,.row [.str h] 9 1]
def hxOut:Asks HX:=fun y K=>uh y.x y.n y.cs y.h (anyH (y.cs.drop y.i) y.h) K
theorem oZ(v:V)(hv:v.flat=true)(n i a:Int)(b:Blk)(h:List UInt8):Fits 2 [v,.func (.func 77) [] [.ptr 1 0],.int .i64 a,.int .i64 n,.int .i64 i] [.dead,.row [.str h] 9 1] [some v,some (.func (.func 77) [] [.ptr 1 0]),some (.int .i64 a),some (.int .i64 n),some (.int .i64 i)] [b,.row [.str h] 9 1]:=
 ⟨[0,1],[v,.func (.func 77) [] [.ptr 1 0],.int .i64 a,.int .i64 n,.int .i64 i],rfl,by simp[renL,renV,jc v hv],FitsM.of ⟨.inl rfl,.inr ⟨_,.inl rfl,rfl⟩,trivial⟩,by decide,fun i hi=>by
   match i,hi with
   |0,_|1,_=>rfl⟩
theorem hx_roundOk(y:HX)(hx:qn y=true):al Qq HX0 9 10 (ah 9) 129 26 [0,1,4,7,8] (hxV y) (hxJ y) (aD 2 qn hxV hxJ hxMu hxOut y):=by
 obtain⟨x,n,cs,h,i⟩:=y;unfold qn at hx;rw[ad]at hx;have p1:i≤n:=aw hx.2;have hx1:okS n cs=true:=hx.1;obtain⟨l,rfl,rfl,p2,p3⟩:=cn hx1;show al Qq HX0 9 10 (ah 9) 129 26 [0,1,4,7,8] [.lst x l.length (strs l),.func (.func 77) [] [.ptr 1 0],.int .i64 0,.int .i64 l.length,.int .i64 i] [.dead,.row [.str h] 9 1] _;rw[hx_round];have ha:∀j,anyH ((strs l).drop j) h=(l.drop j).any fun s=>eZ s h:=fun j=>by
  unfold anyH;rw[List.map_drop,ai]
 have out:∀K,hxOut ⟨x,l.length,strs l,h,i⟩ K→uh x l.length (strs l) h ((l.drop i).any fun s=>eZ s h) K:=fun K hK=>by
  have hK:uh x l.length (strs l) h (anyH ((strs l).drop i) h) K:=hK;rw[ha]at hK;exact hK
 cases hd:l.drop i with
 |nil=>
  have hi:=bY hd p1;rw[bH (show ¬((i:Int)<(l.length:Int)) by omega),ak];refine⟨_,_,fun K hK=>?_,oZ _ rfl _ _ _ _ h⟩;have hK:=out K hK;rw[hd]at hK;rw[hi];exact hK
 |cons c r=>
  obtain⟨e1,e2,e3⟩:=bn hd;obtain⟨e4,e5⟩:=fY hd;have q1:decide ((i:Int)<(l.length:Int))=true:=am (by omega);have q2:decide ((0:Int)≤(i:Int))=true:=am (by omega);rw[q1,q2];simp only[bp,e4,e5,ar,ab,ae,Bool.and_true,show i64.wrap ((i:Int)+1)=((i+1:Nat):Int) by rw[IntWalk.i64_in _ ⟨by omega,by omega⟩];omega];cases hc:eZ c h with
  |true=>
   refine⟨_,_,fun K hK=>?_,oZ _ rfl _ _ _ _ h⟩;have hK:=out K hK;rw[hd,List.any_cons,hc]at hK;exact hK i
  |false=>
   refine⟨⟨x,l.length,strs l,h,i+1⟩,?_,oZ _ rfl _ _ _ _ h,by simp only[hxMu];omega,fun K hK=>?_⟩
   ·unfold qn;rw[ad];exact⟨hx1,ag (show i+1≤l.length by omega)⟩
   ·have hK:=out K hK;show uh x l.length (strs l) h (anyH ((strs l).drop (i+1)) h) K;rw[ha,e2];rw[hd,List.any_cons,hc,Bool.false_or]at hK;exact hK
def lkHX:Nat→Trans→Trans:=ba 26 (bK 2 (szOf Qq 129) [0,1,4,7,8] hxDec qn hxV hxJ hxOut) (ah 9)
theorem lkHX_ok:aQ Qq 2 lkHX 129:=by
 unfold lkHX;exact bB (aY 9 2 129) (by kernel_rfl) fun f st Q h=>bc (P:=Qq) (T:=HX0) (k:=2) (lim:=9) (n:=10) (g:=129) (p0:=26) (lk:=ah 9) aA HX0_ok (bf 9 _ _) hxMu hx_roundOk h
def HX1:Tab:=⟨noT,noL,cI (aT 9) 129 2 lkHX⟩
theorem HX1_ok:TabOk3 Qq HX1:=⟨aJ,aK,bq (au 9) lkHX_ok⟩
theorem host_tree(k g:List UInt8)(x:Value)(n:Nat)(cs:List V)(f u:Int)(ca:Bool)(h:List UInt8)(R:V→Prop):runW Qq HX1 9 10 40 [.agg [.str k,.str g,.lst x n cs,.int .i64 f,.int .i64 u,.bool ca],.str h] R=
  (
 Fits 2 [.lst x n cs,V.func (Fn.func 77) [] [.ptr 1 0],.int i64 0,.int i64 (↑n:Int),.int i64 0] [.dead,.row [.str h] 9 1] [some
 (.lst x n cs),some (V.func (Fn.func 77) [] [.ptr 1 0]),some (.int i64 0),some (.int i64 (↑n:Int)),some (.int i64 0)] [.row [.str k,
 .str g,.lst x n cs,.int i64 f,.int i64 u,.bool ca] 32 6,.row [.str h] 9 1]∧bif qn {x:=x,n:=n,cs:=cs,h:=h,i:=0}then bif
 anyH cs h then ∀(i:Nat),R (.bool true)else R (.bool false)else False):=by kernel_rfl
theorem host_sat(k g:List UInt8)(x:Value)(l:List (List UInt8))(f u:Int)(ca:Bool)(h:List UInt8)(hl:l.length≤9223372036854775807):
  FnSat Qq 40 [.agg [.str k,.str g,lstS x l,.int .i64 f,.int .i64 u,.bool ca],.str h] [] (Is (.bool (l.any fun s=>eZ s h),[])):=by
 refine ax (lim:=9) (n:=10) aA HX1_ok rfl rfl ?_;unfold lstS;rw[host_tree];have ha:anyH (strs l) h=l.any fun s=>eZ s h:=by unfold anyH;rw[ai]
 rw[ha];refine⟨oZ _ rfl _ _ _ _ h,aa (by unfold qn;rw[dH hl];exact ag (Nat.zero_le _)) ?_⟩;cases l.any fun s=>eZ s h with
 |false=>rfl
 |true=>intro _;rfl
def hasH(l:List (List UInt8))(h:List UInt8):Bool:=l.any fun s=>eZ s h
def hostG:List V→St→Option (Qx)
 |[.agg [.str k,.str g,p,.int .i64 f,.int .i64 u,.bool ca],.str h],st=>match bC st p with
  |some (b,l)=>some [(b&&Nat.ble l.length 9223372036854775807,(.bool (hasH l h),st))]
  |none=>none
 |_,_=>none
theorem qo(args:List V)(s:St)(l:Qx)(o:V×St)(h:hostG args s=some l)(ho:aL l=some o):FnSat Qq 40 args s (Is o):=by
 unfold hostG at h;split at h
 ·rename_i k g p f u ca hh;split at h
  ·rename_i b ls hv;cases h;obtain⟨hb,rfl⟩:=aO ho;rw[ad]at hb;obtain⟨rfl,h1⟩:=hb;refine cx rfl fun B W0 w m rargs hr ha=>?_;obtain⟨a,r,q1,q2,rfl⟩:=aj ha;obtain⟨y,hy⟩:=o3 hr hv q1;have q3:=bw (Ψ:=Frz.of w) (m':=[]) _ _ rfl q2;exact⟨[.agg [.str k,.str g,lstS y ls,.int .i64 f,.int .i64 u,.bool ca],.str hh],@aI _ (Frz.of w) [] _ _ _ _ hy q3,@host_sat (Frz.of w) k g y ls f u ca hh (aw h1)⟩
  ·cases h
 ·cases h
theorem dates_tree(k g:List UInt8)(x:Value)(n:Nat)(cs:List V)(f u:Int)(ca:Bool)(now:Int)(R:V→Prop):runW Qq HX0 9 10 43 [.agg [.str k,.str g,.lst x n cs,.int .i64 f,.int .i64 u,.bool ca],.int .i64 now] R=
  (
 bif decide (f≤now)then R (.bool (decide (now≤u)))else R (.bool false)):=by kernel_rfl
def aS(f u now:Int):Bool:=decide (f≤now)&&decide (now≤u)
theorem dates_sat(k g:List UInt8)(x:Value)(n:Nat)(cs:List V)(f u:Int)(ca:Bool)(now:Int):
  FnSat Qq 43 [.agg [.str k,.str g,.lst x n cs,.int .i64 f,.int .i64 u,.bool ca],.int .i64 now] [] (Is (.bool (aS f u now),[])):=by
 refine ax (lim:=9) (n:=10) aA HX0_ok rfl rfl ?_;rw[dates_tree];unfold aS;cases decide (f≤now)<;>rfl
def iJ:List V→St→Option (Qx)
 |[.agg [.str k,.str g,p,.int .i64 f,.int .i64 u,.bool ca],.int .i64 now],st=>match bC st p with
  |some (b,_)=>some [(b,(.bool (aS f u now),st))]
  |none=>none
 |_,_=>none
theorem nS(args:List V)(s:St)(l:Qx)(o:V×St)(h:iJ args s=some l)(ho:aL l=some o):FnSat Qq 43 args s (Is o):=by
 unfold iJ at h;split at h
 ·rename_i k g p f u ca now;split at h
  ·rename_i b ls hv;cases h;obtain⟨rfl,rfl⟩:=aO ho;refine cx rfl fun B W0 w m rargs hr ha=>?_;obtain⟨a,r,q1,q2,rfl⟩:=aj ha;obtain⟨y,hy⟩:=o3 hr hv q1;have q3:=bw (Ψ:=Frz.of w) (m':=[]) _ _ rfl q2;exact⟨[.agg [.str k,.str g,lstS y ls,.int .i64 f,.int .i64 u,.bool ca],.int .i64 now],@aI _ (Frz.of w) [] _ _ _ _ hy q3,@dates_sat (Frz.of w) k g y _ _ f u ca now⟩
  ·cases h
 ·cases h
def mixTG(OK:List V→Bool)(M:W8→List V→W8):List V→Option (Qx)
 |[.agg [.int .u32 a,.int .u32 b,.int .u32 c,.int .u32 d,.int .u32 e,.int .u32 f,.int .u32 g,.int .u32 h],.agg ws]=>some [(OK ws,(.agg (M ⟨a,b,c,d,e,f,g,h⟩ ws).cells,[]))]
 |_=>none
def blkTG(OB:List V→Nat→Bool)(BL:List V→Nat→Nat→Int):List V→St→Option (Qx)
 |[.slice 0 off 64 false c z],[.ro false la]=>some [(OB la off,(.agg (df (BL la off)),[]))]
 |_,_=>none
def TD(OK:List V→Bool)(M:W8→List V→W8)(OB:List V→Nat→Bool)(BL:List V→Nat→Nat→Int):Tab:=⟨addT noT 136 (mixTG OK M),addM noL 137 (blkTG OB BL),aT 10⟩
theorem d1_round(s:List UInt8)(cs v:List V)(k:Nat)(R:Qz):al Qq T3 9 10 (ah 9) 76 60 [0,3,4] [.str s,.ptr 0 0,.slice 1 0 k false 0 0] [.row v 174 8,.row cs 5 1] R=
  (
 bif (↑k:Int).tmod 64!=56 then bif cs.length.beq (k*1)then bif (k+1).ble 9223372036854775807&&((k+1)*1).ble 140737488355328 then R .normal [some (.str
 s),some (.ptr 0 0),some (.slice 3 0 (k+1) false 0 0)] [.row v 174 8,.dead,.row [.int u8 0] 5 1,.row (cs++[V.int u8 0]) 5 1]else
 False else False else R (.exit 0) [some (.str s),some (.ptr 0 0),some (.slice 1 0 k false 0 0)] [.row v 174 8,.row cs 5 1]):=by kernel_rfl
def zu_0(BL:List V→Nat→Nat→Int)(la:List V)(off:Nat):=[V.int u32 (BL la (off+0) 0),V.int u32 (BL la (off+0) 1),V.int u32 (BL la (off+0) 2),V.int u32 (BL la (off+0) 3),V.int u32 (BL la (off+0) 4),V.int u32 (BL la (off+0) 5),V.int u32 (BL la (off+0) 6),V.int u32 (BL la (off+0) 7),V.int u32 (BL la (off+0) 8),V.int u32 (BL la (off+0) 9),V.int u32 (BL la (off+0) 10),V.int u32 (BL la (off+0) 11),V.int u32 (BL la (off+0) 12),V.int u32 (BL la (off+0) 13),V.int u32 (BL la (off+0) 14),V.int u32 (BL la (off+0) 15),V.int u32 (BL la (off+0) 16),V.int u32 (BL la (off+0) 17),V.int u32 (BL la (off+0) 18),V.int u32 (BL la (off+0) 19),V.int u32 (BL la (off+0) 20),V.int u32 (BL la (off+0) 21),V.int u32 (BL la (off+0) 22),V.int u32 (BL la (off+0) 23),V.int u32 (BL la (off+0) 24),V.int u32 (BL la (off+0) 25),V.int u32 (BL la (off+0) 26),V.int u32 (BL la (off+0) 27),V.int u32 (BL la (off+0) 28),V.int u32 (BL la (off+0) 29),V.int u32 (BL la (off+0) 30),V.int u32 (BL la (off+0) 31),V.int u32 (BL la (off+0) 32),V.int u32 (BL la (off+0) 33),V.int u32 (BL la (off+0) 34),V.int u32 (BL la (off+0) 35),V.int u32 (BL la (off+0) 36),V.int u32 (BL la (off+0) 37),V.int u32 (BL la (off+0) 38),V.int u32 (BL la (off+0) 39),V.int u32 (BL la (off+0) 40),V.int u32 (BL la (off+0) 41),V.int u32 (BL la (off+0) 42),V.int u32 (BL la (off+0) 43),V.int u32 (BL la (off+0) 44),V.int u32 (BL la (off+0) 45),V.int u32 (BL la (off+0) 46),V.int u32 (BL la (off+0) 47),V.int u32 (BL la (off+0) 48),V.int u32 (BL la (off+0) 49),V.int u32 (BL la (off+0) 50),V.int u32 (BL la (off+0) 51),V.int u32 (BL la (off+0) 52),V.int u32 (BL la (off+0) 53),V.int u32 (BL la (off+0) 54),V.int u32 (BL la (off+0) 55),V.int u32 (BL la (off+0) 56),V.int u32 (BL la (off+0) 57),V.int u32 (BL la (off+0) 58),V.int u32 (BL la (off+0) 59),V.int u32 (BL la (off+0) 60),V.int u32 (BL la (off+0) 61),V.int u32 (BL la (off+0) 62),V.int u32 (BL la (off+0) 63)]
theorem d3_round(OK:List V→Bool)(M:W8→List V→W8)(OB:List V→Nat→Bool)(BL:List V→Nat→Nat→Int)(a b c d e f g h:Int)(la:List V)(off len cc z:Nat)(R:Qz):al Qq (TD OK M OB BL) 10 10 (ah 10) 76 508 [3,4] [.ptr 0 0,.slice 1 off len false cc z] [.row [.int .u32 a,.int .u32 b,.int .u32 c,.int .u32 d,.int .u32 e,.int .u32 f,.int .u32 g,.int .u32 h] 174 8,.row la 5 1] R=
 (
 bif decide ((↑len:Int)>0)then bif true&&Nat.ble 64 len then bif OB la (off+0)then bif OK (zu_0 BL la off)then bif Nat.ble 64 len&&len.ble len then R
 .normal [some (.ptr 0 0),some (.slice 1 (off+64) (len-64) false (if false=true then cc-64 else cc+64) (if 64=0 then z else off))] [.row
 [.int u32 (M {a:=a,b:=b,c:=c,d:=d,e:=e,f:=f,g:=g,h:=h} (zu_0 BL la off)).a,.int u32 (M
 {a:=a,b:=b,c:=c,d:=d,e:=e,f:=f,g:=g,h:=h} (zu_0 BL la off)).b,.int u32 (M
 {a:=a,b:=b,c:=c,d:=d,e:=e,f:=f,g:=g,h:=h} (zu_0 BL la off)).c,.int u32 (M
 {a:=a,b:=b,c:=c,d:=d,e:=e,f:=f,g:=g,h:=h} (zu_0 BL la off)).d,.int u32 (M
 {a:=a,b:=b,c:=c,d:=d,e:=e,f:=f,g:=g,h:=h} (zu_0 BL la off)).e,.int u32 (M
 {a:=a,b:=b,c:=c,d:=d,e:=e,f:=f,g:=g,h:=h} (zu_0 BL la off)).f,.int u32 (M
 {a:=a,b:=b,c:=c,d:=d,e:=e,f:=f,g:=g,h:=h} (zu_0 BL la off)).g,.int u32 (M
 {a:=a,b:=b,c:=c,d:=d,e:=e,f:=f,g:=g,h:=h} (zu_0 BL la off)).h] 174 8,.row la 5 1]else False else False else False else False else R
 (.exit 4) [some (.ptr 0 0),some (.slice 1 off len false cc z)] [.row [.int u32 a,.int u32 b,.int u32 c,.int u32
 d,.int u32 e,.int u32 f,.int u32 g,.int u32 h] 174 8,.row la 5 1]):=by kernel_rfl
theorem kC:∀{l r:List V},aM l=true→aM r=true→aM (l++r)=true
 |[],r,_,h=>h
 |v::l,r,h1,h2=>by
  rw[aM,ad]at h1;rw[List.cons_append,aM,ad];exact⟨h1.1,kC h1.2 h2⟩
def ivW:W8:=⟨1779033703,3144134277,1013904242,2773480762,1359893119,2600822924,528734635,1541459225⟩
structure DX where
 s:List UInt8
 cs:List V
def dxV(x:DX):List V:=[.str x.s,.ptr 0 0,.slice 1 0 x.cs.length false 0 0]
def dxJ(x:DX):St:=[.row ivW.cells 174 8,.row x.cs 5 1]
def dxN(n:Nat):Nat:=(120-n%64)%64
def oD(x:DX):Bool:=aM x.cs&&Nat.ble (x.cs.length+dxN x.cs.length) 1000000
def dxMu(x:DX):Nat:=dxN x.cs.length
def dxP(cs:List V):List V:=cs++List.replicate (dxN cs.length) (.int .u8 0)
def dxDec:List (Option V)→St→Option DX
 |[some (.str s),some (.ptr 0 0),some (.slice 3 0 _ false 0 0)],[_,_,_,.row cs _ _]=>some ⟨s,cs⟩
 |_,_=>none
def dxOutG(FP:List V→List V):Asks DX:=fun x K=>∀p:List V,p=FP x.cs→K (.exit 0) [.str x.s,.ptr 0 0,.slice 1 0 p.length false 0 0] [.row ivW.cells 174 8,.row p 5 1]
theorem ur(s:List UInt8)(cs:List V)(hf:aM cs=true)(k c:Nat)(st:St)(h0:st[0]?=some (.row ivW.cells 174 8))(hc:st[c]?=some (.row cs 5 1))(hc0:c≠0):Fits 0 [.str s,.ptr 0 0,.slice 1 0 k false 0 0] [.row ivW.cells 174 8,.row cs 5 1] [some (.str s),some (.ptr 0 0),some (.slice c 0 k false 0 0)] st:=
 ⟨[0,c],[.str s,.ptr 0 0,.slice c 0 k false 0 0],rfl,rfl,FitsM.of ⟨.inr ⟨_,.inl rfl,h0⟩,fb hf hc,trivial⟩,by simp;omega,fun i hi=>by omega⟩
theorem dx_roundOk(x:DX)(hx:oD x=true):al Qq T3 9 10 (ah 9) 76 60 [0,3,4] (dxV x) (dxJ x) (aD 0 oD dxV dxJ dxMu (dxOutG dxP) x):=by
 obtain⟨s,cs⟩:=x;unfold oD at hx;rw[ad]at hx;have p1:aM cs=true:=hx.1;have p2:cs.length+dxN cs.length≤1000000:=aw hx.2;show al Qq T3 9 10 (ah 9) 76 60 [0,3,4] [.str s,.ptr 0 0,.slice 1 0 cs.length false 0 0] [.row ivW.cells 174 8,.row cs 5 1] _;generalize hn:cs.length=n at*
 rw[d1_round];have hm:(n:Int).tmod 64=((n%64:Nat):Int):=by rw[Int.tmod_eq_emod_of_nonneg (by omega)];omega
 rw[hm];refine ac (fun h=>?_) (fun h=>?_)
 ·have h:n%64≠56:=by
   intro h0;rw[h0]at h;simp at h
  have p3:dxN n=dxN (n+1)+1:=by unfold dxN;omega
  refine aa (by rw[Nat.mul_one,hn];exact a9 _) (aa (by rw[ad];exact⟨ag (by omega),ag (by omega)⟩) ?_);have hl:(cs++[V.int .u8 0]).length=n+1:=by rw[bQ,hn];rfl
  have hf:aM (cs++[V.int .u8 0])=true:=kC p1 rfl;refine⟨⟨s,cs++[.int .u8 0]⟩,?_,?_,?_,fun K hK=>?_⟩
  ·unfold oD;rw[ad];refine⟨hf,ag ?_⟩;show(cs++[V.int .u8 0]).length+dxN (cs++[V.int .u8 0]).length≤1000000;rw[hl];omega
  ·show Fits 0 [.str s,.ptr 0 0,.slice 1 0 (cs++[V.int .u8 0]).length false 0 0] [.row ivW.cells 174 8,.row (cs++[V.int .u8 0]) 5 1] _ _;rw[hl];exact ur s _ hf _ 3 _ rfl rfl (by omega)
  ·show dxN (cs++[V.int .u8 0]).length<dxN cs.length;rw[hl,hn];omega
  ·have hK:∀p:List V,p=dxP cs→K (.exit 0) [.str s,.ptr 0 0,.slice 1 0 p.length false 0 0] [.row ivW.cells 174 8,.row p 5 1]:=hK;have:dxP (cs++[.int .u8 0])=dxP cs:=by
    unfold dxP;rw[hl,hn,List.append_assoc];rw[p3,List.replicate_succ];rfl
   exact fun p hp=>hK p (hp.trans this)
 ·have h:n%64=56:=by
   have:((n%64:Nat):Int)=56:=by simpa using h
   omega
  refine⟨[.str s,.ptr 0 0,.slice 1 0 n false 0 0],[.row ivW.cells 174 8,.row cs 5 1],fun K hK=>?_,ur s _ p1 _ 1 _ rfl rfl (by omega)⟩;have hK:∀p:List V,p=dxP cs→K (.exit 0) [.str s,.ptr 0 0,.slice 1 0 p.length false 0 0] [.row ivW.cells 174 8,.row p 5 1]:=hK;have:dxP cs=cs:=by
   unfold dxP;have:dxN cs.length=0:=by rw[hn];unfold dxN;omega
   rw[this,List.replicate_zero,List.append_nil]
  have hK:=hK cs this.symm;rw[hn]at hK;exact hK
def okM(ws:List V):Bool:=c8 ws&&Nat.beq ws.length 64
def blkA(la:List V)(off:Nat):Nat→Int:=blkF la off 64 0 eq
theorem TD_ok:TabOk3 Qq (TD okM mixE okB blkA):=⟨aR aJ mix_ok,o7 aK blk_ok,au 10⟩
def sumL:Nat→Nat→List V→W8→W8
 |0,_,_,x=>x
 |n+1,off,la,x=>sumL n (off+64) la (mixE x (df (blkA la off)))
structure D3 where
 la:List V
 x:W8
 off:Nat
 len:Nat
 cc:Nat
 z:Nat
def okA(la:List V):Bool:=aM la&&la.all (ao .u8)
def d3V(y:D3):List V:=[.ptr 0 0,.slice 1 y.off y.len false y.cc y.z]
def d3J(y:D3):St:=[.row y.x.cells 174 8,.row y.la 5 1]
def oF(y:D3):Bool:=okA y.la&&(Nat.beq (y.off+y.len) y.la.length&&Nat.beq (y.len%64) 0)
def d3Mu(y:D3):Nat:=y.len
def d3OutG(SL:Nat→Nat→List V→W8→W8):Asks D3:=fun y K=>∀x:W8,x=SL (y.len/64) y.off y.la y.x→∀o c z:Nat,K (.exit 4) [.ptr 0 0,.slice 1 o 0 false c z] [.row x.cells 174 8,.dead]
theorem okA_B{la:List V}{off:Nat}(h:okA la=true)(hl:off+64≤la.length):okB la off=true:=by
 unfold okA at h;rw[ad]at h;unfold okB;rw[ad,ad];refine⟨h.1,ag hl,?_⟩;rw[List.all_eq_true];intro v hv;exact List.all_eq_true.1 h.2 v (List.mem_of_mem_drop (List.mem_of_mem_take hv))
theorem d3_fits(x:W8)(la:List V)(hf:aM la=true)(o l c z:Nat):Fits 0 [.ptr 0 0,.slice 1 o l false c z] [.row x.cells 174 8,.row la 5 1] [some (.ptr 0 0),some (.slice 1 o l false c z)] [.row x.cells 174 8,.row la 5 1]:=
 ⟨[0,1],[.ptr 0 0,.slice 1 o l false c z],rfl,rfl,FitsM.of ⟨fb rfl rfl,fb hf rfl,trivial⟩,by decide,fun i hi=>by omega⟩
theorem d3_out(x:W8)(la:List V)(o l c z:Nat):Fits 0 [.ptr 0 0,.slice 1 o l false c z] [.row x.cells 174 8,.dead] [some (.ptr 0 0),some (.slice 1 o l false c z)] [.row x.cells 174 8,.row la 5 1]:=
 ⟨[0,1],[.ptr 0 0,.slice 1 o l false c z],rfl,rfl,FitsM.of ⟨fb rfl rfl,.inl rfl,trivial⟩,by decide,fun i hi=>by omega⟩
theorem d3_roundOk(y:D3)(hy:oF y=true):al Qq (TD okM mixE okB blkA) 10 10 (ah 10) 76 508 [3,4] (d3V y) (d3J y) (aD 0 oF d3V d3J d3Mu (d3OutG sumL) y):=by
 obtain⟨la,x,off,len,cc,z⟩:=y;unfold oF at hy;rw[ad,ad]at hy;have p1:okA la=true:=hy.1;have p2:off+len=la.length:=aP hy.2.1;have p3:len%64=0:=aP hy.2.2;have hf:aM la=true:=by have h:=p1;unfold okA at h;rw[ad]at h;exact h.1
 show al Qq (TD okM mixE okB blkA) 10 10 (ah 10) 76 508 [3,4] [.ptr 0 0,.slice 1 off len false cc z] [.row [.int .u32 x.a,.int .u32 x.b,.int .u32 x.c,.int .u32 x.d,.int .u32 x.e,.int .u32 x.f,.int .u32 x.g,.int .u32 x.h] 174 8,.row la 5 1] _;rw[d3_round];unfold zu_0;refine ac (fun hb=>?_) (fun hb=>?_)
 ·have hl:64≤len:=by have:=aN hb;omega
  have hle:Nat.ble 64 len=true:=ag hl;refine aa (by rw[hle];rfl) (aa (okA_B p1 (by omega)) (aa rfl (aa (by rw[hle,aH];exact ag (Nat.le_refl _)) ?_)));refine⟨⟨la,mixE x (df (blkA la off)),off+64,len-64,cc+64,off⟩,?_,d3_fits (mixE x (df (blkA la off))) la hf _ _ _ _,by simp only[d3Mu];omega,fun K hK=>?_⟩
  ·unfold oF;rw[ad,ad];refine⟨p1,?_,?_⟩
   ·show Nat.beq (off+64+(len-64)) la.length=true;have:off+64+(len-64)=la.length:=by omega
    rw[this];exact a9 _
   ·show Nat.beq ((len-64)%64) 0=true;have:(len-64)%64=0:=by omega
    rw[this];rfl
  ·have hK:∀x':W8,x'=sumL (len/64) off la x→∀o c z:Nat,K (.exit 4) [.ptr 0 0,.slice 1 o 0 false c z] [.row x'.cells 174 8,.dead]:=hK;have e:len/64=(len-64)/64+1:=by omega
   rw[e]at hK;exact hK
 ·have hl:len=0:=by have:=bk hb;omega
  subst hl;refine⟨[.ptr 0 0,.slice 1 off 0 false cc z],[.row x.cells 174 8,.dead],fun K hK=>?_,d3_out x la _ _ _ _⟩;have hK:∀x':W8,x'=sumL (0/64) off la x→∀o c z:Nat,K (.exit 4) [.ptr 0 0,.slice 1 o 0 false c z] [.row x'.cells 174 8,.dead]:=hK;rw[Nat.zero_div]at hK;exact hK x rfl off cc z
theorem dx_loop{f:Fr}{st:St}{Q:Exit→Fr→St→Prop}(h:bK 0 (szOf Qq 76) [0,3,4] dxDec oD dxV dxJ (dxOutG dxP) f st Q):CodeSatW Qq none 0 (.loop (cO Qq 76 60)) f st Q:=
 bc (P:=Qq) (T:=T3) (k:=0) (lim:=9) (n:=10) (g:=76) (p0:=60) (lk:=ah 9) aA qS (bf 9 _ _) dxMu dx_roundOk h
def d3Dec:List (Option V)→St→Option D3
 |[some (.ptr 0 0),some (.slice b 0 len false 0 0)],.row [.int .u32 a1,.int .u32 a2,.int .u32 a3,.int .u32 a4,.int .u32 a5,.int .u32 a6,.int .u32 a7,.int .u32 a8] t sz::r=>match(Blk.dead::r)[b]? with
  |some (.row la _ _)=>some ⟨la,⟨a1,a2,a3,a4,a5,a6,a7,a8⟩,0,len,0,0⟩
  |_=>none
 |_,_=>none
theorem d3_loop{f:Fr}{st:St}{Q:Exit→Fr→St→Prop}(h:bK 0 (szOf Qq 76) [3,4] d3Dec oF d3V d3J (d3OutG sumL) f st Q):CodeSatW Qq none 0 (.loop (cO Qq 76 508)) f st Q:=
 bc (P:=Qq) (T:=TD okM mixE okB blkA) (k:=0) (lim:=10) (n:=10) (g:=76) (p0:=508) (lk:=ah 10) aA TD_ok (bf 10 _ _) d3Mu d3_roundOk h
def lk23(FP:List V→List V)(SL:Nat→Nat→List V→W8→W8):Nat→Trans→Trans:=ba 508 (bK 0 (szOf Qq 76) [3,4] d3Dec oF d3V d3J (d3OutG SL)) (ba 60 (bK 0 (szOf Qq 76) [0,3,4] dxDec oD dxV dxJ (dxOutG FP)) (ah 10))
theorem lk23_ok:aQ Qq 0 (lk23 dxP sumL) 76:=by
 unfold lk23;exact bB (bB (aY 10 0 76) (by kernel_rfl) fun f st Q h=>dx_loop h) (by kernel_rfl) fun f st Q h=>d3_loop h
def TD2(FP:List V→List V)(SL:Nat→Nat→List V→W8→W8):Tab:=⟨noT,noL,cI (aT 10) 76 0 (lk23 FP SL)⟩
theorem TD2_ok:TabOk3 Qq (TD2 dxP sumL):=⟨aJ,aK,bq (au 10) lk23_ok⟩
def zu_1(s:List UInt8):=(u64.wrap (u64.wrap (↑s.length:Int)*8))
def zu_2:=[V.int u32 1779033703,V.int u32 3144134277,V.int u32 1013904242,V.int u32 2773480762,V.int u32 1359893119,V.int u32 2600822924,V.int u32 528734635,V.int u32 1541459225]
def zu_3(s:List UInt8):=[V.int u8 (u8.wrap ((zu_1 s).fdiv 72057594037927936))]
def zu_4(s:List UInt8):=[V.int u8 (u8.wrap ((zu_1 s).fdiv 281474976710656))]
def zu_5(s:List UInt8):=[V.int u8 (u8.wrap ((zu_1 s).fdiv 1099511627776))]
def zu_6(s:List UInt8):=[V.int u8 (u8.wrap ((zu_1 s).fdiv 4294967296))]
def zu_7(s:List UInt8):=[V.int u8 (u8.wrap ((zu_1 s).fdiv 16777216))]
def zu_8(s:List UInt8):=[V.int u8 (u8.wrap ((zu_1 s).fdiv 65536))]
def zu_9(s:List UInt8):=[V.int u8 (u8.wrap ((zu_1 s).fdiv 256))]
def ra(s:List UInt8):=[V.int u8 (u8.wrap ((zu_1 s).fdiv 1))]
theorem sum_tree(FP:List V→List V)(SL:Nat→Nat→List V→W8→W8)(s:List UInt8)(R:V→Prop):runW Qq (TD2 FP SL) 10 10 76 [.str s] R=
 (
 bif s.length.ble 281474976710656 then bif (List.map (fun b=>V.int u8 (↑b.toNat:Int)) s).length.beq (s.length*1)then bif (s.length+1).ble
 9223372036854775807&&((s.length+1)*1).ble 140737488355328 then Fits 0 [.str s,.ptr 0 0,.slice 1 0 (List.map (fun b=>V.int u8 (↑b.toNat:
 Int)) s++[V.int u8 128]).length false 0 0] [.row zu_2 174 8,.row (List.map (fun b=>V.int u8 (↑b.toNat:Int)) s++[V.int u8
 128]) 5 1] [some (.str s),some (.ptr 0 0),some (.slice 3 0 (s.length+1) false 0 0)] [.row zu_2 174 8,.dead,.row [.int u8 128] 5 1,
 .row (List.map (fun b=>V.int u8 (↑b.toNat:Int)) s++[V.int u8 128]) 5 1]∧bif oD
 {s:=s,cs:=List.map (fun b=>V.int u8 (↑b.toNat:Int)) s++[V.int u8 128]}then ∀(p:List V),p=FP (List.map (fun b=>V.int
 u8 (↑b.toNat:Int)) s++[V.int u8 128])→bif p.length.beq (p.length*1)then bif (p.length+1).ble 9223372036854775807&&((p.length+1)*
 1).ble 140737488355328 then bif (p++(zu_3 s)).length.beq ((p.length+1)*1)then bif (p.length+1+1).ble 9223372036854775807&&((p.length+1+1)*
 1).ble 140737488355328 then bif (p++(zu_3 s)++(zu_4 s)).length.beq ((p.length+1+1)*1)then bif (p.length+1+1+1).ble 9223372036854775807&&
 ((p.length+1+1+1)*1).ble 140737488355328 then bif (p++(zu_3 s)++(zu_4 s)++(zu_5 s)).length.beq ((p.length+1+1+1)*1)then bif (p.length+1
 +1+1+1).ble 9223372036854775807&&((p.length+1+1+1+1)*1).ble 140737488355328 then bif (p++(zu_3 s)++(zu_4 s)++(zu_5 s)++(zu_6
 s)).length.beq ((p.length+1+1+1+1)*1)then bif (p.length+1+1+1+1+1).ble 9223372036854775807&&((p.length+1+1+1+1+1)*1).ble
 140737488355328 then bif (p++(zu_3 s)++(zu_4 s)++(zu_5 s)++(zu_6 s)++(zu_7 s)).length.beq ((p.length+1+1+1+1+1)*1)then bif (p.length+1+
 1+1+1+1+1).ble 9223372036854775807&&((p.length+1+1+1+1+1+1)*1).ble 140737488355328 then bif (p++(zu_3 s)++(zu_4 s)++(zu_5 s)++
 (zu_6 s)++(zu_7 s)++(zu_8 s)).length.beq ((p.length+1+1+1+1+1+1)*1)then bif (p.length+1+1+1+1+1+1+1).ble 9223372036854775807&&
 ((p.length+1+1+1+1+1+1+1)*1).ble 140737488355328 then bif (p++(zu_3 s)++(zu_4 s)++(zu_5 s)++(zu_6 s)++(zu_7 s)++(zu_8 s)++(zu_9
 s)).length.beq ((p.length+1+1+1+1+1+1+1)*1)then bif (p.length+1+1+1+1+1+1+1+1).ble 9223372036854775807&&((p.length+1+1+1
 +1+1+1+1+1)*1).ble 140737488355328 then Fits 0 [.ptr 0 0,.slice 1 0 (p.length+1+1+1+1+1+1+1+1) false 0 0] [.row zu_2 174 8,
 .row (p++(zu_3 s)++(zu_4 s)++(zu_5 s)++(zu_6 s)++(zu_7 s)++(zu_8 s)++(zu_9 s)++(ra s)) 5 1] [some (.ptr 0 0),some (.slice 17 0 (p.length
 +1+1+1+1+1+1+1+1) false 0 0)] [.row zu_2 174 8,.dead,.row (zu_3 s) 5 1,.dead,.row (zu_4 s) 5 1,.dead,.row (zu_5 s) 5 1,
 .dead,.row (zu_6 s) 5 1,.dead,.row (zu_7 s) 5 1,.dead,.row (zu_8 s) 5 1,.dead,.row (zu_9 s) 5 1,.dead,.row (ra s) 5 1,
 .row (p++(zu_3 s)++(zu_4 s)++(zu_5 s)++(zu_6 s)++(zu_7 s)++(zu_8 s)++(zu_9 s)++(ra s)) 5 1]∧bif oF
 {la:=p++(zu_3 s)++(zu_4 s)++(zu_5 s)++(zu_6 s)++(zu_7 s)++(zu_8 s)++(zu_9 s)++(ra s),x:={a:=1779033703,b:=3144134277,c:=1013904242,d:=2773480762,e:=1359893119,f:=2600822924,g:=528734635,h:=1541459225},off:=0,len:=p.length+1+1+1+1+1+1+1+1,cc:=0,z:=0}
 then ∀(x:W8),x=SL ((p.length+1+1+1+1+1+1+1+1)/64) 0 (p++(zu_3 s)++(zu_4 s)++(zu_5 s)++(zu_6 s)++(zu_7 s)++(zu_8 s)++(zu_9
 s)++(ra s)) {a:=1779033703,b:=3144134277,c:=1013904242,d:=2773480762,e:=1359893119,f:=2600822924,g:=528734635,h:=1541459225}→∀(o
 c z:Nat),R (.str (List.map Vm.byteOf [.int u8 (u8.wrap (x.a.fdiv 16777216)),.int u8 (u8.wrap (x.a.fdiv 65536)),.int
 u8 (u8.wrap (x.a.fdiv 256)),.int u8 (u8.wrap x.a),.int u8 (u8.wrap (x.b.fdiv 16777216)),.int u8
 (u8.wrap (x.b.fdiv 65536)),.int u8 (u8.wrap (x.b.fdiv 256)),.int u8 (u8.wrap x.b),.int u8 (u8.wrap
 (x.c.fdiv 16777216)),.int u8 (u8.wrap (x.c.fdiv 65536)),.int u8 (u8.wrap (x.c.fdiv 256)),.int u8 (u8.wrap
 x.c),.int u8 (u8.wrap (x.d.fdiv 16777216)),.int u8 (u8.wrap (x.d.fdiv 65536)),.int u8 (u8.wrap (x.d.fdiv
 256)),.int u8 (u8.wrap x.d),.int u8 (u8.wrap (x.e.fdiv 16777216)),.int u8 (u8.wrap (x.e.fdiv 65536)),.int
 u8 (u8.wrap (x.e.fdiv 256)),.int u8 (u8.wrap x.e),.int u8 (u8.wrap (x.f.fdiv 16777216)),.int u8
 (u8.wrap (x.f.fdiv 65536)),.int u8 (u8.wrap (x.f.fdiv 256)),.int u8 (u8.wrap x.f),.int u8 (u8.wrap
 (x.g.fdiv 16777216)),.int u8 (u8.wrap (x.g.fdiv 65536)),.int u8 (u8.wrap (x.g.fdiv 256)),.int u8 (u8.wrap
 x.g),.int u8 (u8.wrap (x.h.fdiv 16777216)),.int u8 (u8.wrap (x.h.fdiv 65536)),.int u8 (u8.wrap (x.h.fdiv
 256)),.int u8 (u8.wrap x.h)]))else False else False else False else False else False else False else False else False else False else False
 else False else False else False else False else False else False else False else False else False else False else False):=by kernel_rfl
theorem cN{o:List V}{k:Nat}{A:Prop}(h:o.length=k)(hk:k≤2000000)(hA:A):must (Nat.beq o.length (k*1)) (must ((k+1).ble 9223372036854775807&&((k+1)*1).ble 140737488355328) A):=by
 refine aa (by rw[h,Nat.mul_one];exact a9 _) (aa ?_ hA);rw[ad];exact⟨ag (by omega),ag (by omega)⟩
theorem aG{o:List V}{k:Nat}{v:V}(h:o.length=k):(o++[v]).length=k+1:=by rw[bQ,h];rfl
def lenD(n:Nat)(k:Int):V:=.int .u8 (u8.wrap ((u64.wrap (u64.wrap (n:Int)*8)).fdiv k))
def la8(p:List V)(n:Nat):List V:=((((((((p++[lenD n 72057594037927936])++[lenD n 281474976710656])++[lenD n 1099511627776])++[lenD n 4294967296])++[lenD n 16777216])++[lenD n 65536])++[lenD n 256])++[lenD n 1])
def outW(x:W8):List V:=[V.int .u8 (u8.wrap (x.a.fdiv 16777216)),V.int .u8 (u8.wrap (x.a.fdiv 65536)),V.int .u8 (u8.wrap (x.a.fdiv 256)),V.int .u8 (u8.wrap x.a),V.int .u8 (u8.wrap (x.b.fdiv 16777216)),V.int .u8 (u8.wrap (x.b.fdiv 65536)),V.int .u8 (u8.wrap (x.b.fdiv 256)),V.int .u8 (u8.wrap x.b),V.int .u8 (u8.wrap (x.c.fdiv 16777216)),V.int .u8 (u8.wrap (x.c.fdiv 65536)),V.int .u8 (u8.wrap (x.c.fdiv 256)),V.int .u8 (u8.wrap x.c),V.int .u8 (u8.wrap (x.d.fdiv 16777216)),V.int .u8 (u8.wrap (x.d.fdiv 65536)),V.int .u8 (u8.wrap (x.d.fdiv 256)),V.int .u8 (u8.wrap x.d),V.int .u8 (u8.wrap (x.e.fdiv 16777216)),V.int .u8 (u8.wrap (x.e.fdiv 65536)),V.int .u8 (u8.wrap (x.e.fdiv 256)),V.int .u8 (u8.wrap x.e),V.int .u8 (u8.wrap (x.f.fdiv 16777216)),V.int .u8 (u8.wrap (x.f.fdiv 65536)),V.int .u8 (u8.wrap (x.f.fdiv 256)),V.int .u8 (u8.wrap x.f),V.int .u8 (u8.wrap (x.g.fdiv 16777216)),V.int .u8 (u8.wrap (x.g.fdiv 65536)),V.int .u8 (u8.wrap (x.g.fdiv 256)),V.int .u8 (u8.wrap x.g),V.int .u8 (u8.wrap (x.h.fdiv 16777216)),V.int .u8 (u8.wrap (x.h.fdiv 65536)),V.int .u8 (u8.wrap (x.h.fdiv 256)),V.int .u8 (u8.wrap x.h)]
def padP(s:List UInt8):List V:=dxP (bys s++[V.int .u8 128])
def sumW(s:List UInt8):W8:=sumL (((padP s).length+1+1+1+1+1+1+1+1)/64) 0 (la8 (padP s) s.length) ivW
def sumF(s:List UInt8):List UInt8:=(outW (sumW s)).map Vm.byteOf
def sumT:List V→Option (Qx)
 |[.str s]=>some [(okL s,(.str (sumF s),[]))]
 |_=>none
theorem d3_fitsN(la:List V)(hf:aM la=true)(l c:Nat)(st:St)(h0:st[0]?=some (.row ivW.cells 174 8))(hc:st[c]?=some (.row la 5 1))(hc0:c≠0):Fits 0 [.ptr 0 0,.slice 1 0 l false 0 0] [.row ivW.cells 174 8,.row la 5 1] [some (.ptr 0 0),some (.slice c 0 l false 0 0)] st:=
 ⟨[0,c],[.ptr 0 0,.slice c 0 l false 0 0],rfl,rfl,FitsM.of ⟨.inr ⟨_,.inl rfl,h0⟩,fb hf hc,trivial⟩,by simp;omega,fun i hi=>by omega⟩
theorem okA_bys(s:List UInt8):okA (bys s)=true:=by
 unfold okA;rw[ad];refine⟨bys_flat s,?_⟩;unfold bys;rw[List.all_map,List.all_eq_true];intro b _;rfl
theorem cR{l r:List V}(h1:okA l=true)(h2:okA r=true):okA (l++r)=true:=by
 unfold okA at*
 rw[ad]at*
 exact⟨kC h1.1 h2.1,by rw[List.all_append,h1.2,h2.2];rfl⟩
theorem okA_rep(n:Nat):okA (List.replicate n (.int .u8 0))=true:=by
 induction n with
 |zero=>rfl
 |succ n ih=>rw[List.replicate_succ];exact cR (l:=[.int .u8 0]) rfl ih
theorem sum_ok(args:List V)(l:Qx)(o:V×St)(h:sumT args=some l)(ho:aL l=some o):FnSat Qq 76 args [] (Is o):=by
 unfold sumT at h;split at h
 ·rename_i s;cases h;cases hk:okL s with
  |false=>rw[hk]at ho;cases ho
  |true=>
  rw[hk]at ho;cases ho;have p1:=okL_le hk;have hc:okA (bys s++[V.int .u8 128])=true:=cR (okA_bys s) rfl;have hcl:(bys s++[V.int .u8 128]).length=s.length+1:=aG (bys_len s);have hP:okA (padP s)=true:=cR hc (okA_rep _);have hPl:(padP s).length=s.length+1+dxN (s.length+1):=by unfold padP dxP;rw[bQ,List.length_replicate,hcl]
  have hN:dxN (s.length+1)<64:=by unfold dxN;omega
  have hM:(padP s).length%64=56:=by rw[hPl];unfold dxN;omega
  refine ax (lim:=10) (n:=10) aA TD2_ok rfl rfl ?_;rw[sum_tree];unfold ra zu_9 zu_8 zu_7 zu_6 zu_5 zu_4 zu_3 zu_2 zu_1;refine aa (ag (by omega)) (cN (bys_ln s) (by omega) ⟨?_,aa ?_ (fun p hp=>?_)⟩)
  ·have:=ur s (bys s++[V.int .u8 128]) (by have h:=hc;unfold okA at h;rw[ad]at h;exact h.1) (bys s++[V.int .u8 128]).length 3;have hcl2:(List.map (fun b:UInt8=>V.int .u8 (b.toNat:Int)) s++[V.int .u8 128]).length=s.length+1:=hcl;rw[hcl2];rw[hcl]at this;exact this _ rfl rfl (by omega)
  ·unfold oD;rw[ad];refine⟨by have h:=hc;unfold okA at h;rw[ad]at h;exact h.1,ag ?_⟩;show(bys s++[V.int .u8 128]).length+dxN (bys s++[V.int .u8 128]).length≤1000000;rw[hcl];omega
  ·have hp:p=padP s:=hp;have hl:p.length≤200000:=by rw[hp];omega
   have hA:okA (la8 p s.length)=true:=by
    rw[hp];unfold la8;exact cR (cR (cR (cR (cR (cR (cR (cR hP rfl) rfl) rfl) rfl) rfl) rfl) rfl) rfl
   have hF:aM (la8 p s.length)=true:=by have h:=hA;unfold okA at h;rw[ad]at h;exact h.1
   have hL:(la8 p s.length).length=p.length+1+1+1+1+1+1+1+1:=aG (aG (aG (aG (aG (aG (aG (aG rfl)))))));refine cN rfl (by omega) (cN (aG rfl) (by omega) (cN (aG (aG rfl)) (by omega) (cN (aG (aG (aG rfl))) (by omega) (cN (aG (aG (aG (aG rfl)))) (by omega) (cN (aG (aG (aG (aG (aG rfl))))) (by omega) (cN (aG (aG (aG (aG (aG (aG rfl)))))) (by omega) (cN (aG (aG (aG (aG (aG (aG (aG rfl))))))) (by omega) (?_))))))));refine⟨?_,aa ?_ (fun x hx o c z=>?_)⟩
   ·exact d3_fitsN (la8 p s.length) hF _ _ _ rfl rfl (by omega)
   ·unfold oF;rw[ad,ad];refine⟨hA,?_,?_⟩
    ·show Nat.beq (0+(p.length+1+1+1+1+1+1+1+1)) (la8 p s.length).length=true;rw[hL,Nat.zero_add];exact a9 _
    ·show Nat.beq ((p.length+1+1+1+1+1+1+1+1)%64) 0=true;have:(p.length+1+1+1+1+1+1+1+1)%64=0:=by rw[hp];omega
     rw[this];rfl
   ·have hx:x=sumW s:=by rw[hx,hp];rfl
    rw[hx];rfl
 ·cases h
end Go.Proofs.YtebkeppoicllmaaGreatDoor
end
