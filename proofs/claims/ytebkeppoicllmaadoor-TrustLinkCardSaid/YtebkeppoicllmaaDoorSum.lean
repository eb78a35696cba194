/- The digest's functions: what they come to. -/
import Derived.Test.YtebkeppoicllmaaDoorVmc
import Derived.Test.YtebkeppoicllmaaDoorRows
import Derived.KernelRfl
import Derived.IntWalk
namespace Go.Proofs.YtebkeppoicllmaaDoor
open Go.IntKind (u8 u16 u32 u64 i8 i16 i32 i64)
open Go Go.Vm Go.RowKit
set_option linter.unusedVariables false
set_option maxRecDepth 100000
set_option linter.unusedSectionVars false
variable [Φ:Frz]
theorem aH:Tryd.prog.follows .mixedOrders=true:=by kernel_rfl
def keyC:List V:=[.int .u32 1116352408,.int .u32 1899447441,.int .u32 3049323471,.int .u32 3921009573,.int .u32 961987163,.int .u32 1508970993,.int .u32 2453635748,.int .u32 2870763221,.int .u32 3624381080,.int .u32 310598401,.int .u32 607225278,.int .u32 1426881987,.int .u32 1925078388,.int .u32 2162078206,.int .u32 2614888103,.int .u32 3248222580,.int .u32 3835390401,.int .u32 4022224774,.int .u32 264347078,.int .u32 604807628,.int .u32 770255983,.int .u32 1249150122,.int .u32 1555081692,.int .u32 1996064986,.int .u32 2554220882,.int .u32 2821834349,.int .u32 2952996808,.int .u32 3210313671,.int .u32 3336571891,.int .u32 3584528711,.int .u32 113926993,.int .u32 338241895,.int .u32 666307205,.int .u32 773529912,.int .u32 1294757372,.int .u32 1396182291,.int .u32 1695183700,.int .u32 1986661051,.int .u32 2177026350,.int .u32 2456956037,.int .u32 2730485921,.int .u32 2820302411,.int .u32 3259730800,.int .u32 3345764771,.int .u32 3516065817,.int .u32 3600352804,.int .u32 4094571909,.int .u32 275423344,.int .u32 430227734,.int .u32 506948616,.int .u32 659060556,.int .u32 883997877,.int .u32 958139571,.int .u32 1322822218,.int .u32 1537002063,.int .u32 1747873779,.int .u32 1955562222,.int .u32 2024104815,.int .u32 2227730452,.int .u32 2361852424,.int .u32 2428436474,.int .u32 2756734187,.int .u32 3204031479,.int .u32 3329325298]
instance gl:Glob:={n:=2,cells:=fun|0=>some keyC|_=>none,more:=fun _=>(0,0)}
noncomputable def T0:Tab:=⟨noT,noL,bf 6⟩
theorem T0_ok:TabOk3 Tryd.prog T0:=⟨aL,aM,au 6⟩
theorem rot_tree(x n:Int)(R:V→Prop):runW Tryd.prog T0 6 10 41 [.int .u32 x,.int .i64 n] R=
  (
 bif decide (0≤u64.wrap (32-u64.wrap (↑(BitVec.ofInt 64 (u64.wrap (i64.wrap (0-n)))&&&BitVec.ofInt 64 31).toNat:Int)))then R
 (.int u32 (u32.wrap (↑(BitVec.ofInt 32 (u32.wrap (x*2^min (u64.wrap (↑(BitVec.ofInt 64 (u64.wrap (i64.wrap (0-n)))
 &&&BitVec.ofInt 64 31).toNat:Int)).toNat 32))|||BitVec.ofInt 32 (x.fdiv (2^min (u64.wrap (32-u64.wrap (↑(BitVec.ofInt 64 (u64.wrap
 (i64.wrap (0-n)))&&&BitVec.ofInt 64 31).toNat:Int))).toNat 32))).toNat:Int)))else False):=by kernel_rfl
def rotI(x n:Int):Int:=u32.wrap (((BitVec.ofInt 32 (u32.wrap (x*2^min (u64.wrap (((BitVec.ofInt 64 (u64.wrap (i64.wrap (0-n)))&&&BitVec.ofInt 64 31).toNat:Nat):Int)).toNat 32))|||
 BitVec.ofInt 32 (x.fdiv (2^min (u64.wrap (32-u64.wrap (((BitVec.ofInt 64 (u64.wrap (i64.wrap (0-n)))&&&BitVec.ofInt 64 31).toNat:Nat):Int))).toNat 32))).toNat:Nat):Int)
def rotF:List V→Option V
 |[.int .u32 x,.int .i64 n]=>some (.int .u32 (rotI x n))
 |_=>none
theorem and31_le(y:BitVec 64):((y&&&BitVec.ofInt 64 31).toNat:Int)≤31:=by
 rw[BitVec.toNat_and];have:(BitVec.ofInt 64 31).toNat=31:=by decide
 rw[this];have:=Nat.and_le_right (n:=y.toNat) (m:=31);omega
theorem rot_ok(args:List V)(v:V)(h:rotF args=some v):FnSat Tryd.prog 41 args [] (Is (v,[])):=by
 unfold rotF at h;split at h
 ·rename_i x n;cases h;refine aJ (lim:=6) (n:=10) aH T0_ok rfl rfl ?_;rw[rot_tree];have h1:=and31_le (BitVec.ofInt 64 (u64.wrap (i64.wrap (0-n))));have h2:=IntWalk.u64_in (((BitVec.ofInt 64 (u64.wrap (i64.wrap (0-n)))&&&BitVec.ofInt 64 31).toNat:Nat):Int) ⟨by omega,by omega⟩;refine ab (fun _=>rfl) (fun h=>?_);have h:=of_decide_eq_false h;rw[h2,IntWalk.u64_in _ ⟨by omega,by omega⟩]at h;omega
 ·cases h
noncomputable def T1:Tab:=⟨addP noT 41 rotF,noL,bf 9⟩
theorem T1_ok:TabOk3 Tryd.prog T1:=⟨aQ aL rot_ok,aM,au 9⟩
structure W8 where
 a:Int
 b:Int
 c:Int
 d:Int
 e:Int
 f:Int
 g:Int
 h:Int
def W8.cells(x:W8):List V:=[.int .u32 x.a,.int .u32 x.b,.int .u32 x.c,.int .u32 x.d,.int .u32 x.e,.int .u32 x.f,.int .u32 x.g,.int .u32 x.h]
def xorI(a b:Int):Int:=u32.wrap (((BitVec.ofInt 32 a^^^BitVec.ofInt 32 b).toNat:Nat):Int)
def andI(a b:Int):Int:=u32.wrap (((BitVec.ofInt 32 a&&&BitVec.ofInt 32 b).toNat:Nat):Int)
def orI(a b:Int):Int:=u32.wrap (((BitVec.ofInt 32 a|||BitVec.ofInt 32 b).toNat:Nat):Int)
def addI(a b:Int):Int:=u32.wrap (a+b)
def tI(e f g h k w:Int):Int:=addI (addI (addI (addI h (xorI (xorI (rotI e 6) (rotI e 11)) (rotI e 25))) (xorI (andI e f) (andI (xorI 4294967295 e) g))) k) w
def uI(a b c:Int):Int:=addI (xorI (xorI (rotI a 2) (rotI a 13)) (rotI a 22)) (xorI (xorI (andI a b) (andI a c)) (andI b c))
def mixR(x:W8)(k w:Int):W8:=⟨addI (tI x.e x.f x.g x.h k w) (uI x.a x.b x.c),x.a,x.b,x.c,addI x.d (tI x.e x.f x.g x.h k w),x.e,x.f,x.g⟩
def keyI(j:Nat):Int:=al (keyC.getD j (.bool false))
def wI(ws:List V)(j:Nat):Int:=al (ws.getD j (.bool false))
def mixL:Nat→Nat→List V→W8→W8
 |0,_,_,x=>x
 |n+1,j,ws,x=>mixL n (j+1) ws (mixR x (keyI j) (wI ws j))
def eF(ws:List V):Bool:=ws.all (br .u32)
theorem eT{ws:List V}(h:eF ws=true){j:Nat}(hj:j<ws.length):br .u32 (ws.getD j (.bool false))=true:=by
 rw[List.getD_eq_getElem?_getD,List.getElem?_eq_getElem hj];exact List.all_eq_true.1 h _ (List.getElem_mem hj)
theorem kb(σ:List Nat):∀ws:List V,eF ws=true→renL σ ws=some ws
 |[],_=>rfl
 |v::r,h=>by
  unfold eF at h;rw[List.all_cons,Bool.and_eq_true]at h;have ih:=kb σ r h.2;cases v<;>simp[br]at h;simp only[renL,renV,ih]
theorem mix_round(a b c d e f g h:Int)(ws:List V)(m:Nat)(j:Int)(r was:List V)(R:Exit→List (Option V)→St→Prop):ao Tryd.prog T1 9 10 (ah 9) 25 58 [2,3,4,5,13] [.ptr 0 0,.ptr 1 0,.ptr 2 0,.ptr 3 0,.int .i64 j] [.row [.int .u32 a,.int .u32 b,.int .u32 c,.int .u32 d,.int .u32 e,.int .u32 f,.int .u32 g,.int .u32 h] 53 8,.row ws 57 m,.row r 53 8,.row was 53 8] R=
  (
 bif decide (j<64)then bif decide (0≤j)&&decide (j<64)then bif (0+j.toNat*1).blt 64 then bif br u32 ([.int u32 1116352408,.int
 u32 1899447441,.int u32 3049323471,.int u32 3921009573,.int u32 961987163,.int u32 1508970993,.int u32
 2453635748,.int u32 2870763221,.int u32 3624381080,.int u32 310598401,.int u32 607225278,.int u32 1426881987,.int
 u32 1925078388,.int u32 2162078206,.int u32 2614888103,.int u32 3248222580,.int u32 3835390401,.int u32
 4022224774,.int u32 264347078,.int u32 604807628,.int u32 770255983,.int u32 1249150122,.int u32 1555081692,.int
 u32 1996064986,.int u32 2554220882,.int u32 2821834349,.int u32 2952996808,.int u32 3210313671,.int u32
 3336571891,.int u32 3584528711,.int u32 113926993,.int u32 338241895,.int u32 666307205,.int u32 773529912,.int
 u32 1294757372,.int u32 1396182291,.int u32 1695183700,.int u32 1986661051,.int u32 2177026350,.int u32
 2456956037,.int u32 2730485921,.int u32 2820302411,.int u32 3259730800,.int u32 3345764771,.int u32 3516065817,.int
 u32 3600352804,.int u32 4094571909,.int u32 275423344,.int u32 430227734,.int u32 506948616,.int u32 659060556,
 .int u32 883997877,.int u32 958139571,.int u32 1322822218,.int u32 1537002063,.int u32 1747873779,.int u32
 1955562222,.int u32 2024104815,.int u32 2227730452,.int u32 2361852424,.int u32 2428436474,.int u32 2756734187,.int
 u32 3204031479,.int u32 3329325298].getD (0+j.toNat*1) (.bool false))then bif decide (0≤j)&&decide (j<64)then bif (0+j.toNat*1).blt
 ws.length then bif br u32 (ws.getD (0+j.toNat*1) (.bool false))then R .normal [some (.ptr 0 0),some (.ptr 1 0),some (.ptr 2 0),some (.ptr 3
 0),some (.int i64 (i64.wrap (j+1)))] [.row [.int u32 (u32.wrap (u32.wrap (u32.wrap (u32.wrap
 (u32.wrap (h+u32.wrap (↑(BitVec.ofInt 32 (u32.wrap (↑(BitVec.ofInt 32 (rotI (e) 6)^^^BitVec.ofInt 32 (rotI (e) 11)).toNat:Int))^^^
 BitVec.ofInt 32 (rotI (e) 25)).toNat:Int))+u32.wrap (↑(BitVec.ofInt 32 (u32.wrap (↑(BitVec.ofInt 32 (e)&&&BitVec.ofInt 32 (f)).toNat:Int))^^^
 BitVec.ofInt 32 (u32.wrap (↑(BitVec.ofInt 32 (u32.wrap (↑(BitVec.ofInt 32 4294967295^^^BitVec.ofInt 32 (e)).toNat:Int))&&&BitVec.ofInt 32 (g)).toNat
 :Int))).toNat:Int))+al ([.int u32 1116352408,.int u32 1899447441,.int u32 3049323471,.int u32 3921009573,.int
 u32 961987163,.int u32 1508970993,.int u32 2453635748,.int u32 2870763221,.int u32 3624381080,.int u32
 310598401,.int u32 607225278,.int u32 1426881987,.int u32 1925078388,.int u32 2162078206,.int u32 2614888103,.int
 u32 3248222580,.int u32 3835390401,.int u32 4022224774,.int u32 264347078,.int u32 604807628,.int u32 770255983,
 .int u32 1249150122,.int u32 1555081692,.int u32 1996064986,.int u32 2554220882,.int u32 2821834349,.int u32
 2952996808,.int u32 3210313671,.int u32 3336571891,.int u32 3584528711,.int u32 113926993,.int u32 338241895,.int
 u32 666307205,.int u32 773529912,.int u32 1294757372,.int u32 1396182291,.int u32 1695183700,.int u32
 1986661051,.int u32 2177026350,.int u32 2456956037,.int u32 2730485921,.int u32 2820302411,.int u32 3259730800,.int
 u32 3345764771,.int u32 3516065817,.int u32 3600352804,.int u32 4094571909,.int u32 275423344,.int u32
 430227734,.int u32 506948616,.int u32 659060556,.int u32 883997877,.int u32 958139571,.int u32 1322822218,.int
 u32 1537002063,.int u32 1747873779,.int u32 1955562222,.int u32 2024104815,.int u32 2227730452,.int u32
 2361852424,.int u32 2428436474,.int u32 2756734187,.int u32 3204031479,.int u32 3329325298].getD (0+j.toNat*1) (.bool
 false)))+al (ws.getD (0+j.toNat*1) (.bool false)))+u32.wrap (u32.wrap (↑(BitVec.ofInt 32 (u32.wrap (↑(BitVec.ofInt 32 (rotI (a) 2)
 ^^^BitVec.ofInt 32 (rotI (a) 13)).toNat:Int))^^^BitVec.ofInt 32 (rotI (a) 22)).toNat:Int)+u32.wrap (↑(BitVec.ofInt 32 (u32.wrap (↑(BitVec.ofInt
 32 (u32.wrap (↑(BitVec.ofInt 32 (a)&&&BitVec.ofInt 32 (b)).toNat:Int))^^^BitVec.ofInt 32 (u32.wrap (↑(BitVec.ofInt 32 (a)&&&BitVec.ofInt 32
 (c)).toNat:Int))).toNat:Int))^^^BitVec.ofInt 32 (u32.wrap (↑(BitVec.ofInt 32 (b)&&&BitVec.ofInt 32 (c)).toNat:Int))).toNat:Int)))),.int u32
 (a),.int u32 (b),.int u32 (c),.int u32 (u32.wrap (d+u32.wrap (u32.wrap (u32.wrap (u32.wrap (h+
 u32.wrap (↑(BitVec.ofInt 32 (u32.wrap (↑(BitVec.ofInt 32 (rotI (e) 6)^^^BitVec.ofInt 32 (rotI (e) 11)).toNat:Int))^^^BitVec.ofInt 32 (rotI (e)
 25)).toNat:Int))+u32.wrap (↑(BitVec.ofInt 32 (u32.wrap (↑(BitVec.ofInt 32 (e)&&&BitVec.ofInt 32 (f)).toNat:Int))^^^BitVec.ofInt 32
 (u32.wrap (↑(BitVec.ofInt 32 (u32.wrap (↑(BitVec.ofInt 32 4294967295^^^BitVec.ofInt 32 (e)).toNat:Int))&&&BitVec.ofInt 32 (g)).toNat:Int))).toNat
 :Int))+al ([.int u32 1116352408,.int u32 1899447441,.int u32 3049323471,.int u32 3921009573,.int u32 961987163,
 .int u32 1508970993,.int u32 2453635748,.int u32 2870763221,.int u32 3624381080,.int u32 310598401,.int u32
 607225278,.int u32 1426881987,.int u32 1925078388,.int u32 2162078206,.int u32 2614888103,.int u32 3248222580,.int
 u32 3835390401,.int u32 4022224774,.int u32 264347078,.int u32 604807628,.int u32 770255983,.int u32 1249150122,
 .int u32 1555081692,.int u32 1996064986,.int u32 2554220882,.int u32 2821834349,.int u32 2952996808,.int u32
 3210313671,.int u32 3336571891,.int u32 3584528711,.int u32 113926993,.int u32 338241895,.int u32 666307205,.int
 u32 773529912,.int u32 1294757372,.int u32 1396182291,.int u32 1695183700,.int u32 1986661051,.int u32
 2177026350,.int u32 2456956037,.int u32 2730485921,.int u32 2820302411,.int u32 3259730800,.int u32 3345764771,.int
 u32 3516065817,.int u32 3600352804,.int u32 4094571909,.int u32 275423344,.int u32 430227734,.int u32 506948616,
 .int u32 659060556,.int u32 883997877,.int u32 958139571,.int u32 1322822218,.int u32 1537002063,.int u32
 1747873779,.int u32 1955562222,.int u32 2024104815,.int u32 2227730452,.int u32 2361852424,.int u32 2428436474,.int
 u32 2756734187,.int u32 3204031479,.int u32 3329325298].getD (0+j.toNat*1) (.bool false)))+al (ws.getD (0+j.toNat*1) (.bool
 false))))),.int u32 (e),.int u32 (f),.int u32 (g)] 53 8,.row ws 57 m,.row r 53 8,.row was 53 8]else False else False else False
 else False else False else False else R (.exit 0) [some (.ptr 0 0),some (.ptr 1 0),some (.ptr 2 0),some (.ptr 3 0),some (.int i64 j)] [.row [.int
 u32 a,.int u32 b,.int u32 c,.int u32 d,.int u32 e,.int u32 f,.int u32 g,.int u32 h] 53 8,
 .row ws 57 m,.row r 53 8,.row was 53 8]):=by kernel_rfl
structure MX where
 x:W8
 l:List V
 m:Nat
 r:W8
 was:W8
 j:Nat
def mxV(y:MX):List V:=[.ptr 0 0,.ptr 1 0,.ptr 2 0,.ptr 3 0,.int .i64 y.j]
def mxJ(y:MX):St:=[.row y.x.cells 53 8,.row y.l 57 y.m,.row y.r.cells 53 8,.row y.was.cells 53 8]
def iq(y:MX):Bool:=eF y.l&&(Nat.beq y.l.length 64&&Nat.ble y.j 64)
def mxMu(y:MX):Nat:=64-y.j
def mxOutG(ML:Nat→Nat→List V→W8→W8):Asks MX:=fun y K=>K (.exit 0) [.ptr 0 0,.ptr 1 0,.ptr 2 0,.ptr 3 0,.int .i64 64] [.row (ML (64-y.j) y.j y.l y.x).cells 53 8,.row y.l 57 y.m,.row y.r.cells 53 8,.row y.was.cells 53 8]
abbrev mxOut:Asks MX:=mxOutG mixL
theorem oA(x:W8)(l:List V)(hl:eF l=true)(m:Nat)(r was:W8)(j:Int):Fits 0 [.ptr 0 0,.ptr 1 0,.ptr 2 0,.ptr 3 0,.int .i64 j] [.row x.cells 53 8,.row l 57 m,.row r.cells 53 8,.row was.cells 53 8]
  [some (.ptr 0 0),some (.ptr 1 0),some (.ptr 2 0),some (.ptr 3 0),some (.int .i64 j)] [.row x.cells 53 8,.row l 57 m,.row r.cells 53 8,.row was.cells 53 8]:=
 ⟨[0,1,2,3],[.ptr 0 0,.ptr 1 0,.ptr 2 0,.ptr 3 0,.int .i64 j],rfl,rfl,FitsM.of ⟨.inr ⟨_,.inl rfl,rfl⟩,.inr ⟨.row l 57 m,.inl (by simp only[renB,kb _ l hl]),rfl⟩,.inr ⟨_,.inl rfl,rfl⟩,.inr ⟨_,.inl rfl,rfl⟩,trivial⟩,by decide,fun i hi=>by omega⟩
theorem mx_roundOk(y:MX)(hy:iq y=true):ao Tryd.prog T1 9 10 (ah 9) 25 58 [2,3,4,5,13] (mxV y) (mxJ y) (aR 0 iq mxV mxJ mxMu mxOut y):=by
 obtain⟨x,l,m,r,was,j⟩:=y;have p1:l.length=64:=by
  unfold iq at hy;rw[Bool.and_eq_true]at hy;rw[Bool.and_eq_true]at hy;exact Nat.eq_of_beq_eq_true hy.2.1
 have p2:j≤64:=by
  unfold iq at hy;rw[Bool.and_eq_true]at hy;rw[Bool.and_eq_true]at hy;exact Nat.le_of_ble_eq_true hy.2.2
 have p0:eF l=true:=by
  unfold iq at hy;rw[Bool.and_eq_true]at hy;exact hy.1
 clear hy;show ao Tryd.prog T1 9 10 (ah 9) 25 58 [2,3,4,5,13] [.ptr 0 0,.ptr 1 0,.ptr 2 0,.ptr 3 0,.int .i64 j] [.row [.int .u32 x.a,.int .u32 x.b,.int .u32 x.c,.int .u32 x.d,.int .u32 x.e,.int .u32 x.f,.int .u32 x.g,.int .u32 x.h] 53 8,.row l 57 m,.row r.cells 53 8,.row was.cells 53 8] _;rw[mix_round];cases hb:decide ((j:Int)<64)with
 |true=>
  have hj:j<64:=by have:=of_decide_eq_true hb;omega
  have e1:i64.wrap ((j:Int)+1)=((j+1:Nat):Int):=by rw[IntWalk.i64_in _ ⟨by omega,by omega⟩];omega
  have c1:decide ((0:Int)≤(j:Int))=true:=decide_eq_true (by omega);have c2:(0+j*1).blt 64=true:=Nat.ble_eq_true_of_le (by omega);have c3:(0+j*1).blt l.length=true:=Nat.ble_eq_true_of_le (by omega);have c4:∀i:Fin 64,br .u32 (keyC.getD i.val (.bool false))=true:=by decide+kernel
  have c5:=c4 ⟨j,hj⟩;have e0:0+j*1=j:=by omega
  rw[Int.toNat_natCast,c1,c2,c3,e1,e0];simp only[Bool.and_self,cond_true];refine ae c5 ?_;refine ae (eT p0 (by omega)) ?_;refine⟨⟨mixR x (keyI j) (wI l j),l,m,r,was,j+1⟩,?_,oA _ l p0 m r was _,by simp only[mxMu];omega,fun K hK=>?_⟩
  ·unfold iq;rw[Bool.and_eq_true,Bool.and_eq_true];exact⟨p0,by rw[p1];rfl,Nat.ble_eq_true_of_le hj⟩
  ·have hK:K _ _ _:=hK;have:64-j=(64-(j+1))+1:=by omega
   rw[this]at hK;exact hK
 |false=>
  have hj:j=64:=by have:=of_decide_eq_false hb;omega
  subst hj;exact⟨_,_,fun K hK=>hK,oA x l p0 m r was 64⟩
def mxDec:List (Option V)→St→Option MX
 |[some (.ptr 0 0),some (.ptr 1 0),some (.ptr 2 0),some (.ptr 3 0),some (.int .i64 0)],
  .row [.int .u32 a,.int .u32 b,.int .u32 c,.int .u32 d,.int .u32 e,.int .u32 f,.int .u32 g,.int .u32 h] _ _::.row ws _ m::.row [.int .u32 a2,.int .u32 b2,.int .u32 c2,.int .u32 d2,.int .u32 e2,.int .u32 f2,.int .u32 g2,.int .u32 h2] _ _::.row [.int .u32 a3,.int .u32 b3,.int .u32 c3,.int .u32 d3,.int .u32 e3,.int .u32 f3,.int .u32 g3,.int .u32 h3] _ _::_=>
   some ⟨⟨a,b,c,d,e,f,g,h⟩,ws,m,⟨a2,b2,c2,d2,e2,f2,g2,h2⟩,⟨a3,b3,c3,d3,e3,f3,g3,h3⟩,0⟩
 |_,_=>none
end Go.Proofs.YtebkeppoicllmaaDoor
