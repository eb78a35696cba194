/- The digest's functions: what they come to. -/
import Derived.Test.YtebkeppoicllmaaDoorSum
namespace Go.Proofs.YtebkeppoicllmaaDoor
open Go.IntKind (u8 u16 u32 u64 i8 i16 i32 i64)
open Go Go.Vm Go.RowKit
set_option linter.unusedVariables false
set_option maxRecDepth 100000
set_option linter.unusedSectionVars false
variable [Φ:Frz]
noncomputable def lk73G(ML:Nat→Nat→List V→W8→W8):Nat→Trans→Trans:=bA 58 (cx 0 (szOf Tryd.prog 25) [2,3,4,5,13] mxDec iq mxV mxJ (mxOutG ML)) (ah 9)
noncomputable def lk73:Nat→Trans→Trans:=lk73G mixL
theorem mx_loop{f:Fr}{st:St}{Q:Exit→Fr→St→Prop}(h:cx 0 (szOf Tryd.prog 25) [2,3,4,5,13] mxDec iq mxV mxJ mxOut f st Q):CodeSatW Tryd.prog none 0 (.loop (dJ Tryd.prog 25 58)) f st Q:=
 bN (P:=Tryd.prog) (T:=T1) (k:=0) (lim:=9) (n:=10) (g:=25) (p0:=58) (lk:=ah 9) aH T1_ok (bn 9 _ _) mxMu mx_roundOk h
theorem lk73_ok:aC Tryd.prog 0 lk73 25:=by
 unfold lk73 lk73G;exact cm (bj 9 0 25) (by kernel_rfl) fun f st Q h=>mx_loop h
noncomputable def T2(ML:Nat→Nat→List V→W8→W8):Tab:=⟨addP noT 41 rotF,noL,dS (bf 9) 25 0 (lk73G ML)⟩
theorem T2_ok:TabOk3 Tryd.prog (T2 mixL):=⟨aQ aL rot_ok,aM,bT (au 9) lk73_ok⟩
theorem mix_tree(ML:Nat→Nat→List V→W8→W8)(a b c d e f g h:Int)(ws:List V)(R:V→St→Prop):runM Tryd.prog (T2 ML) 9 10 25 [.agg [.int .u32 a,.int .u32 b,.int .u32 c,.int .u32 d,.int .u32 e,.int .u32 f,.int .u32 g,.int .u32 h],.agg ws] R=
  (
 Fits 0 [.ptr 0 0,.ptr 1 0,.ptr 2 0,.ptr 3 0,.int i64 0] [.row [.int u32 a,.int u32 b,.int u32 c,.int u32 d,
 .int u32 e,.int u32 f,.int u32 g,.int u32 h] 53 8,.row ws 57 ws.length,.row [.int u32 0,.int u32 0,
 .int u32 0,.int u32 0,.int u32 0,.int u32 0,.int u32 0,.int u32 0] 53 8,.row [.int u32 a,.int
 u32 b,.int u32 c,.int u32 d,.int u32 e,.int u32 f,.int u32 g,.int u32 h] 53 8] [some (.ptr 0 0),some
 (.ptr 1 0),some (.ptr 2 0),some (.ptr 3 0),some (.int i64 0)] [.row [.int u32 a,.int u32 b,.int u32 c,.int u32 d,
 .int u32 e,.int u32 f,.int u32 g,.int u32 h] 53 8,.row ws 57 ws.length,.row [.int u32 0,.int u32 0,
 .int u32 0,.int u32 0,.int u32 0,.int u32 0,.int u32 0,.int u32 0] 53 8,.row [.int u32 a,.int
 u32 b,.int u32 c,.int u32 d,.int u32 e,.int u32 f,.int u32 g,.int u32 h] 53 8]∧bif iq {x:={a:=a,b:=b,c:=c,d:=d,e:=e,f:=f,g:=g,h:=h},l:=ws,m:=ws.length,r:={a:=0,b:=0,c:=0,d:=0,e:=0,f:=0,g:=0,h:=0},was:={a:=a,b:=b,c:=c,d:=d,e:=e,f:=f,g:=g,h:=h},j:=0}
 then R (.agg [.int u32 (u32.wrap ((ML 64 0 ws {a:=a,b:=b,c:=c,d:=d,e:=e,f:=f,g:=g,h:=h}).a+a)),.int u32
 (u32.wrap ((ML 64 0 ws {a:=a,b:=b,c:=c,d:=d,e:=e,f:=f,g:=g,h:=h}).b+b)),.int u32 (u32.wrap ((ML 64 0 ws {a:=a,b:=b,c:=c,d:=d,e:=e,f:=f,g:=g,h:=h}).c
 +c)),.int u32 (u32.wrap ((ML 64 0 ws {a:=a,b:=b,c:=c,d:=d,e:=e,f:=f,g:=g,h:=h}).d+d)),.int u32 (u32.wrap
 ((ML 64 0 ws {a:=a,b:=b,c:=c,d:=d,e:=e,f:=f,g:=g,h:=h}).e+e)),.int u32 (u32.wrap ((ML 64 0 ws {a:=a,b:=b,c:=c,d:=d,e:=e,f:=f,g:=g,h:=h}).f
 +f)),.int u32 (u32.wrap ((ML 64 0 ws {a:=a,b:=b,c:=c,d:=d,e:=e,f:=f,g:=g,h:=h}).g+g)),.int u32 (u32.wrap
 ((ML 64 0 ws {a:=a,b:=b,c:=c,d:=d,e:=e,f:=f,g:=g,h:=h}).h+h))]) [.row [.int u32 (u32.wrap ((ML 64 0 ws {a:=a,b:=b,c:=c,d:=d,e:=e,f:=f,g:=g,h:=h}).a
 +a)),.int u32 (u32.wrap ((ML 64 0 ws {a:=a,b:=b,c:=c,d:=d,e:=e,f:=f,g:=g,h:=h}).b+b)),.int u32 (u32.wrap
 ((ML 64 0 ws {a:=a,b:=b,c:=c,d:=d,e:=e,f:=f,g:=g,h:=h}).c+c)),.int u32 (u32.wrap ((ML 64 0 ws {a:=a,b:=b,c:=c,d:=d,e:=e,f:=f,g:=g,h:=h}).d
 +d)),.int u32 (u32.wrap ((ML 64 0 ws {a:=a,b:=b,c:=c,d:=d,e:=e,f:=f,g:=g,h:=h}).e+e)),.int u32 (u32.wrap
 ((ML 64 0 ws {a:=a,b:=b,c:=c,d:=d,e:=e,f:=f,g:=g,h:=h}).f+f)),.int u32 (u32.wrap ((ML 64 0 ws {a:=a,b:=b,c:=c,d:=d,e:=e,f:=f,g:=g,h:=h}).g
 +g)),.int u32 (u32.wrap ((ML 64 0 ws {a:=a,b:=b,c:=c,d:=d,e:=e,f:=f,g:=g,h:=h}).h+h))] 53 8,.row ws 57 ws.length,
 .row [.int u32 (u32.wrap ((ML 64 0 ws {a:=a,b:=b,c:=c,d:=d,e:=e,f:=f,g:=g,h:=h}).a+a)),.int u32 (u32.wrap
 ((ML 64 0 ws {a:=a,b:=b,c:=c,d:=d,e:=e,f:=f,g:=g,h:=h}).b+b)),.int u32 (u32.wrap ((ML 64 0 ws {a:=a,b:=b,c:=c,d:=d,e:=e,f:=f,g:=g,h:=h}).c
 +c)),.int u32 (u32.wrap ((ML 64 0 ws {a:=a,b:=b,c:=c,d:=d,e:=e,f:=f,g:=g,h:=h}).d+d)),.int u32 (u32.wrap
 ((ML 64 0 ws {a:=a,b:=b,c:=c,d:=d,e:=e,f:=f,g:=g,h:=h}).e+e)),.int u32 (u32.wrap ((ML 64 0 ws {a:=a,b:=b,c:=c,d:=d,e:=e,f:=f,g:=g,h:=h}).f
 +f)),.int u32 (u32.wrap ((ML 64 0 ws {a:=a,b:=b,c:=c,d:=d,e:=e,f:=f,g:=g,h:=h}).g+g)),.int u32 (u32.wrap
 ((ML 64 0 ws {a:=a,b:=b,c:=c,d:=d,e:=e,f:=f,g:=g,h:=h}).h+h))] 53 8,.row [.int u32 a,.int u32 b,.int u32 c,
 .int u32 d,.int u32 e,.int u32 f,.int u32 g,.int u32 h] 53 8]else False):=by kernel_rfl
def mixE(x:W8)(ws:List V):W8:=⟨addI (mixL 64 0 ws x).a x.a,addI (mixL 64 0 ws x).b x.b,addI (mixL 64 0 ws x).c x.c,addI (mixL 64 0 ws x).d x.d,addI (mixL 64 0 ws x).e x.e,addI (mixL 64 0 ws x).f x.f,addI (mixL 64 0 ws x).g x.g,addI (mixL 64 0 ws x).h x.h⟩
def mixF:List V→Option (List (Bool×(V×St)))
 |[.agg [.int .u32 a,.int .u32 b,.int .u32 c,.int .u32 d,.int .u32 e,.int .u32 f,.int .u32 g,.int .u32 h],.agg ws]=>some [(eF ws&&Nat.beq ws.length 64,(.agg (mixE ⟨a,b,c,d,e,f,g,h⟩ ws).cells,[]))]
 |_=>none
theorem mix_ok(args:List V)(l:List (Bool×(V×St)))(o:V×St)(h:mixF args=some l)(ho:aP l=some o):FnSat Tryd.prog 25 args [] (Is o):=by
 unfold mixF at h;split at h
 ·rename_i a b c d e f g h' ws;cases h;cases hc:(eF ws&&Nat.beq ws.length 64)with
  |false=>rw[hc]at ho;cases ho
  |true=>
   rw[hc]at ho;cases ho;rw[Bool.and_eq_true]at hc;refine FnSat.fits (gX (lim:=9) (n:=10) aH T2_ok ?_);rw[mix_tree];refine⟨oA ⟨a,b,c,d,e,f,g,h'⟩ ws hc.1 ws.length ⟨0,0,0,0,0,0,0,0⟩ ⟨a,b,c,d,e,f,g,h'⟩ 0,ae ?_ ?_⟩
   ·unfold iq;rw[Bool.and_eq_true,Bool.and_eq_true];exact⟨hc.1,hc.2,rfl⟩
   ·exact⟨[],[.agg (mixE ⟨a,b,c,d,e,f,g,h'⟩ ws).cells],rfl,rfl,FitsM.of trivial,by simp,fun i hi=>by omega⟩
 ·cases h
theorem blk_round(la:List V)(off c z:Nat)(ws:List V)(j:Int)(R:Exit→List (Option V)→St→Prop):ao Tryd.prog T1 9 10 (ah 9) 26 26 [0,2,6] [.slice 0 off 64 false c z,.ptr 1 0,.int .i64 j] [.ro false la,.row ws 57 64] R=
  (
 bif decide (j<64)then bif decide (j<16)then bif decide (0≤i64.wrap (4*j))&&decide (i64.wrap (4*j)<64)then bif (off+(i64.wrap (4
 *j)).toNat*1).blt la.length then bif br u8 (la.getD (off+(i64.wrap (4*j)).toNat*1) (.bool false))then bif decide (0≤i64.wrap
 (i64.wrap (4*j)+1))&&decide (i64.wrap (i64.wrap (4*j)+1)<64)then bif (off+(i64.wrap (i64.wrap (4*j)+1)).toNat*
 1).blt la.length then bif br u8 (la.getD (off+(i64.wrap (i64.wrap (4*j)+1)).toNat*1) (.bool false))then bif decide (0≤
 i64.wrap (i64.wrap (4*j)+2))&&decide (i64.wrap (i64.wrap (4*j)+2)<64)then bif (off+(i64.wrap (i64.wrap (4*
 j)+2)).toNat*1).blt la.length then bif br u8 (la.getD (off+(i64.wrap (i64.wrap (4*j)+2)).toNat*1) (.bool false))then bif decide
 (0≤i64.wrap (i64.wrap (4*j)+3))&&decide (i64.wrap (i64.wrap (4*j)+3)<64)then bif (off+(i64.wrap (i64.wrap
 (4*j)+3)).toNat*1).blt la.length then bif br u8 (la.getD (off+(i64.wrap (i64.wrap (4*j)+3)).toNat*1) (.bool false))then bif
 decide (0≤j)&&decide (j<64)then bif true&&(0+j.toNat*1+1).ble ws.length then R .normal [some (.slice 0 off 64 false c z),some (.ptr 1 0),some
 (.int i64 (i64.wrap (j+1)))] [.ro false la,.row (ey (0+j.toNat*1) [.int u32 (u32.wrap (↑(BitVec.ofInt 32
 (u32.wrap (↑(BitVec.ofInt 32 (u32.wrap (↑(BitVec.ofInt 32 (u32.wrap (u32.wrap (al (la.getD (off+(i64.wrap (4*j)).toNat*
 1) (.bool false)))*16777216))|||BitVec.ofInt 32 (u32.wrap (u32.wrap (al (la.getD (off+(i64.wrap (i64.wrap (4*j)+1)).toNat*
 1) (.bool false)))*65536))).toNat:Int))|||BitVec.ofInt 32 (u32.wrap (u32.wrap (al (la.getD (off+(i64.wrap (i64.wrap (4*j)+
 2)).toNat*1) (.bool false)))*256))).toNat:Int))|||BitVec.ofInt 32 (u32.wrap (al (la.getD (off+(i64.wrap (i64.wrap (4*j)+
 3)).toNat*1) (.bool false))))).toNat:Int))] ws) 57 64]else False else False else False else False else False else False else False else False else False else False
 else False else False else False else False else bif decide (0≤i64.wrap (j-15))&&decide (i64.wrap (j-15)<64)then bif (0+(i64.wrap (j
 -15)).toNat*1).blt ws.length then bif br u32 (ws.getD (0+(i64.wrap (j-15)).toNat*1) (.bool false))then bif decide (0≤i64.wrap (j
 -2))&&decide (i64.wrap (j-2)<64)then bif (0+(i64.wrap (j-2)).toNat*1).blt ws.length then bif br u32 (ws.getD (0+
 (i64.wrap (j-2)).toNat*1) (.bool false))then bif decide (0≤i64.wrap (j-16))&&decide (i64.wrap (j-16)<64)then bif (0+
 (i64.wrap (j-16)).toNat*1).blt ws.length then bif br u32 (ws.getD (0+(i64.wrap (j-16)).toNat*1) (.bool false))then bif decide (0≤
 i64.wrap (j-7))&&decide (i64.wrap (j-7)<64)then bif (0+(i64.wrap (j-7)).toNat*1).blt ws.length then bif br u32 (ws.getD
 (0+(i64.wrap (j-7)).toNat*1) (.bool false))then bif decide (0≤j)&&decide (j<64)then bif true&&(0+j.toNat*1+1).ble ws.length then R
 .normal [some (.slice 0 off 64 false c z),some (.ptr 1 0),some (.int i64 (i64.wrap (j+1)))] [.ro false la,.row (ey (0+j.toNat*1)
 [.int u32 (u32.wrap (u32.wrap (u32.wrap (al (ws.getD (0+(i64.wrap (j-16)).toNat*1) (.bool false))+al (ws.getD (0
 +(i64.wrap (j-7)).toNat*1) (.bool false)))+u32.wrap (↑(BitVec.ofInt 32 (u32.wrap (↑(BitVec.ofInt 32 (rotI (al (ws.getD (0+
 (i64.wrap (j-15)).toNat*1) (.bool false))) 7)^^^BitVec.ofInt 32 (rotI (al (ws.getD (0+(i64.wrap (j-15)).toNat*1) (.bool false)))
 18)).toNat:Int))^^^BitVec.ofInt 32 ((al (ws.getD (0+(i64.wrap (j-15)).toNat*1) (.bool false))).fdiv 8)).toNat:Int))+u32.wrap
 (↑(BitVec.ofInt 32 (u32.wrap (↑(BitVec.ofInt 32 (rotI (al (ws.getD (0+(i64.wrap (j-2)).toNat*1) (.bool false))) 17)^^^BitVec.ofInt 32 (rotI
 (al (ws.getD (0+(i64.wrap (j-2)).toNat*1) (.bool false))) 19)).toNat:Int))^^^BitVec.ofInt 32 ((al (ws.getD (0+(i64.wrap (j-
 2)).toNat*1) (.bool false))).fdiv 1024)).toNat:Int)))] ws) 57 64]else False else False else False else False else False else False else False else False else False
 else False else False else False else False else False else R (.exit 0) [some (.slice 0 off 64 false c z),some (.ptr 1 0),some (.int i64 j)] [.ro
 false la,.row ws 57 64]):=by kernel_rfl
def okB(la:List V)(off:Nat):Bool:=ax la&&(Nat.ble (off+64) la.length&&((la.drop off).take 64).all (br .u8))
theorem okB_len{la:List V}{off:Nat}(h:okB la off=true):off+64≤la.length:=by
 unfold okB at h;rw[Bool.and_eq_true,Bool.and_eq_true]at h;exact Nat.le_of_ble_eq_true h.2.1
theorem lD{la:List V}{off:Nat}(h:okB la off=true):ax la=true:=by
 unfold okB at h;rw[Bool.and_eq_true]at h;exact h.1
theorem fo{la:List V}{off i:Nat}(h:okB la off=true)(hi:i<64):(off+i*1).blt la.length=true∧br .u8 (la.getD (off+i*1) (.bool false))=true:=by
 have hl:=okB_len h;unfold okB at h;rw[Bool.and_eq_true,Bool.and_eq_true]at h;have h2:=h.2.2;clear h;rw[Nat.mul_one];refine⟨Nat.ble_eq_true_of_le (by omega),?_⟩;have hlt:off+i<la.length:=by omega
 rw[List.getD_eq_getElem?_getD,List.getElem?_eq_getElem hlt];refine List.all_eq_true.1 h2 _ ?_;rw[List.mem_iff_getElem?];exact⟨i,by rw[List.getElem?_take,if_pos hi,List.getElem?_drop];exact List.getElem?_eq_getElem hlt⟩
def bI(la:List V)(off i:Nat):Int:=al (la.getD (off+i*1) (.bool false))
def shI(b m:Int):Int:=u32.wrap (u32.wrap b*m)
def wordB(la:List V)(off j:Nat):Int:=orI (orI (orI (shI (bI la off (4*j)) 16777216) (shI (bI la off (4*j+1)) 65536)) (shI (bI la off (4*j+2)) 256)) (u32.wrap (bI la off (4*j+3)))
def wordW(ws:List V)(j:Nat):Int:=addI (addI (addI (wI ws (j-16)) (wI ws (j-7))) (xorI (xorI (rotI (wI ws (j-15)) 7) (rotI (wI ws (j-15)) 18)) ((wI ws (j-15)).fdiv 8))) (xorI (xorI (rotI (wI ws (j-2)) 17) (rotI (wI ws (j-2)) 19)) ((wI ws (j-2)).fdiv 1024))
def wordN(la:List V)(off:Nat)(ws:List V)(j:Nat):Int:=if j<16 then wordB la off j else wordW ws j
def blkL(la:List V)(off:Nat):Nat→Nat→List V→List V
 |0,_,ws=>ws
 |n+1,j,ws=>blkL la off n (j+1) (ey j [.int .u32 (wordN la off ws j)] ws)
theorem put_all32{ws:List V}{j:Nat}{x:Int}(h:eF ws=true)(hj:j<ws.length):eF (ey j [.int .u32 x] ws)=true∧(ey j [.int .u32 x] ws).length=ws.length:=by
 unfold eF at h ⊢;rw[List.all_eq_true]at h ⊢;refine⟨fun v hv=>?_,?_⟩
 ·unfold ey at hv;rcases List.mem_append.1 hv with hv|hv
  ·rcases List.mem_append.1 hv with hv|hv
   ·exact h v (List.mem_of_mem_take hv)
   ·rw[List.mem_singleton.1 hv];rfl
  ·exact h v (List.mem_of_mem_drop hv)
 ·unfold ey;simp only[List.length_append,List.length_take,List.length_drop,List.length_cons,List.length_nil];omega
def de(f:Nat→Int):List V:=[.int .u32 (f 0),.int .u32 (f 1),.int .u32 (f 2),.int .u32 (f 3),.int .u32 (f 4),.int .u32 (f 5),.int .u32 (f 6),.int .u32 (f 7),.int .u32 (f 8),.int .u32 (f 9),.int .u32 (f 10),.int .u32 (f 11),.int .u32 (f 12),.int .u32 (f 13),.int .u32 (f 14),.int .u32 (f 15),.int .u32 (f 16),.int .u32 (f 17),.int .u32 (f 18),.int .u32 (f 19),.int .u32 (f 20),.int .u32 (f 21),.int .u32 (f 22),.int .u32 (f 23),.int .u32 (f 24),.int .u32 (f 25),.int .u32 (f 26),.int .u32 (f 27),.int .u32 (f 28),.int .u32 (f 29),.int .u32 (f 30),.int .u32 (f 31),.int .u32 (f 32),.int .u32 (f 33),.int .u32 (f 34),.int .u32 (f 35),.int .u32 (f 36),.int .u32 (f 37),.int .u32 (f 38),.int .u32 (f 39),.int .u32 (f 40),.int .u32 (f 41),.int .u32 (f 42),.int .u32 (f 43),.int .u32 (f 44),.int .u32 (f 45),.int .u32 (f 46),.int .u32 (f 47),.int .u32 (f 48),.int .u32 (f 49),.int .u32 (f 50),.int .u32 (f 51),.int .u32 (f 52),.int .u32 (f 53),.int .u32 (f 54),.int .u32 (f 55),.int .u32 (f 56),.int .u32 (f 57),.int .u32 (f 58),.int .u32 (f 59),.int .u32 (f 60),.int .u32 (f 61),.int .u32 (f 62),.int .u32 (f 63)]
theorem cells64_map(f:Nat→Int):de f=(List.range 64).map fun i=>V.int .u32 (f i):=by kernel_rfl
theorem cells64_of{ws:List V}(h:eF ws=true)(hl:ws.length=64):de (wI ws)=ws:=by
 rw[cells64_map];apply List.ext_getElem?;intro i;rcases Nat.lt_or_ge i 64 with hi|hi
 ·rw[List.getElem?_map,List.getElem?_range hi,Option.map_some];have h1:=eT h (j:=i) (by omega);unfold wI;rw[List.getD_eq_getElem?_getD,List.getElem?_eq_getElem (by omega),Option.getD_some]at h1 ⊢;cases hv:ws[i]with
  |int k n=>
   rw[hv]at h1;have hk:k=.u32:=of_decide_eq_true h1;subst hk;rfl
  |_=>rw[hv]at h1;cases h1
 ·rw[List.getElem?_eq_none (by simp;omega),List.getElem?_eq_none (by omega)]
def blkF(la:List V)(off n j:Nat)(ws:List V):Nat→Int:=wI (blkL la off n j ws)
structure BX where
 la:List V
 off:Nat
 c:Nat
 z:Nat
 ws:List V
 j:Nat
def bxV(y:BX):List V:=[.slice 0 y.off 64 false y.c y.z,.ptr 1 0,.int .i64 y.j]
def bxJ(y:BX):St:=[.ro false y.la,.row y.ws 57 64]
def jA(y:BX):Bool:=okB y.la y.off&&(eF y.ws&&(Nat.beq y.ws.length 64&&Nat.ble y.j 64))
def bxMu(y:BX):Nat:=64-y.j
def bxOutG(BL:List V→Nat→Nat→Nat→List V→Nat→Int):Asks BX:=fun y K=>K (.exit 0) [.slice 0 y.off 64 false y.c y.z,.ptr 1 0,.int .i64 64] [.ro false y.la,Blk.row (de (BL y.la y.off (64-y.j) y.j y.ws)) 57 64]
abbrev bxOut:Asks BX:=bxOutG blkF
theorem o3(la:List V)(hf:ax la=true)(off c z:Nat)(ws:List V)(hw:eF ws=true)(j:Int):Fits 1 [.slice 0 off 64 false c z,.ptr 1 0,.int .i64 j] [.ro false la,.row ws 57 64]
  [some (.slice 0 off 64 false c z),some (.ptr 1 0),some (.int .i64 j)] [.ro false la,.row ws 57 64]:=
 ⟨[0,1],[.slice 0 off 64 false c z,.ptr 1 0,.int .i64 j],rfl,rfl,FitsM.of ⟨.inr ⟨.ro false la,.inl (by simp only[renB,av la hf]),rfl⟩,.inr ⟨.row ws 57 64,.inl (by simp only[renB,kb _ ws hw]),rfl⟩,trivial⟩,by decide,fun i hi=>by
   match i,hi with
   |0,_=>rfl⟩
theorem bx_roundOk(y:BX)(hy:jA y=true):ao Tryd.prog T1 9 10 (ah 9) 26 26 [0,2,6] (bxV y) (bxJ y) (aR 1 jA bxV bxJ bxMu bxOut y):=by
 obtain⟨la,off,c,z,ws,j⟩:=y;unfold jA at hy;rw[Bool.and_eq_true,Bool.and_eq_true,Bool.and_eq_true]at hy;have p0:okB la off=true:=hy.1;have p1:eF ws=true:=hy.2.1;have p2:ws.length=64:=Nat.eq_of_beq_eq_true hy.2.2.1;have p3:j≤64:=Nat.le_of_ble_eq_true hy.2.2.2;clear hy;have hf:=lD p0;show ao Tryd.prog T1 9 10 (ah 9) 26 26 [0,2,6] [.slice 0 off 64 false c z,.ptr 1 0,.int .i64 j] [.ro false la,.row ws 57 64] _;rw[blk_round];cases hb:decide ((j:Int)<64)with
 |true=>
  have hj:j<64:=by have:=of_decide_eq_true hb;omega
  have e1:i64.wrap ((j:Int)+1)=((j+1:Nat):Int):=by rw[IntWalk.i64_in _ ⟨by omega,by omega⟩];omega
  have d1:decide ((0:Int)≤(j:Int))=true:=decide_eq_true (by omega);have d2:(true&&(0+j*1+1).ble ws.length)=true:=by rw[Bool.true_and];exact Nat.ble_eq_true_of_le (by omega)
  have e0:0+j*1=j:=by omega
  -- what stands behind a round
  have fin:∀x:Int,x=wordN la off ws j→aR 1 jA bxV bxJ bxMu bxOut ⟨la,off,c,z,ws,j⟩ .normal [some (.slice 0 off 64 false c z),some (.ptr 1 0),some (.int .i64 ((j+1:Nat):Int))] [.ro false la,.row (ey j [.int .u32 x] ws) 57 64]:=by
   intro x hx;have hp:=put_all32 (x:=x) p1 (j:=j) (by omega);refine⟨⟨la,off,c,z,ey j [.int .u32 x] ws,j+1⟩,?_,o3 la hf off c z _ hp.1 _,by simp only[bxMu];omega,fun K hK=>?_⟩
   ·unfold jA;rw[Bool.and_eq_true,Bool.and_eq_true,Bool.and_eq_true];exact⟨p0,hp.1,by rw[hp.2,p2];rfl,Nat.ble_eq_true_of_le hj⟩
   ·have hK:K _ _ _:=hK;have h64:64-j=(64-(j+1))+1:=by omega
    rw[h64]at hK;rw[hx];exact hK
  cases hb2:decide ((j:Int)<16)with
  |true=>
   have hj2:j<16:=by have:=of_decide_eq_true hb2;omega
   have w0:i64.wrap (4*(j:Int))=((4*j:Nat):Int):=by rw[IntWalk.i64_in _ ⟨by omega,by omega⟩];omega
   have w1:i64.wrap (((4*j:Nat):Int)+1)=((4*j+1:Nat):Int):=by rw[IntWalk.i64_in _ ⟨by omega,by omega⟩];omega
   have w2:i64.wrap (((4*j:Nat):Int)+2)=((4*j+2:Nat):Int):=by rw[IntWalk.i64_in _ ⟨by omega,by omega⟩];omega
   have w3:i64.wrap (((4*j:Nat):Int)+3)=((4*j+3:Nat):Int):=by rw[IntWalk.i64_in _ ⟨by omega,by omega⟩];omega
   rw[w0,w1,w2,w3,e1];simp only[Int.toNat_natCast];rw[d1,d2,e0];have k:∀i:Nat,i<64→(decide ((0:Int)≤(i:Int))&&decide ((i:Int)<64))=true:=fun i hi=>by
    rw[Bool.and_eq_true];exact⟨decide_eq_true (by omega),decide_eq_true (by omega)⟩
   rw[cond_true,cond_true];refine ae (k _ (by omega)) (ae (fo p0 (by omega)).1 (ae (fo p0 (by omega)).2 ?_));refine ae (k _ (by omega)) (ae (fo p0 (by omega)).1 (ae (fo p0 (by omega)).2 ?_));refine ae (k _ (by omega)) (ae (fo p0 (by omega)).1 (ae (fo p0 (by omega)).2 ?_));refine ae (k _ (by omega)) (ae (fo p0 (by omega)).1 (ae (fo p0 (by omega)).2 ?_));refine ae rfl ?_;exact fin _ (by unfold wordN;rw[if_pos hj2];rfl)
  |false=>
   have hj2:¬j<16:=by have:=of_decide_eq_false hb2;omega
   have w15:i64.wrap ((j:Int)-15)=((j-15:Nat):Int):=by rw[IntWalk.i64_in _ ⟨by omega,by omega⟩];omega
   have w2:i64.wrap ((j:Int)-2)=((j-2:Nat):Int):=by rw[IntWalk.i64_in _ ⟨by omega,by omega⟩];omega
   have w16:i64.wrap ((j:Int)-16)=((j-16:Nat):Int):=by rw[IntWalk.i64_in _ ⟨by omega,by omega⟩];omega
   have w7:i64.wrap ((j:Int)-7)=((j-7:Nat):Int):=by rw[IntWalk.i64_in _ ⟨by omega,by omega⟩];omega
   rw[w15,w2,w16,w7,e1];simp only[Int.toNat_natCast];have s0:∀i:Nat,0+i*1=i:=fun i=>by omega
   simp only[s0];rw[d1];have d2':(true&&(j+1).ble ws.length)=true:=by rw[Bool.true_and];exact Nat.ble_eq_true_of_le (by omega)
   rw[d2',cond_true,cond_false];have k:∀i:Nat,i<64→(decide ((0:Int)≤(i:Int))&&decide ((i:Int)<64))=true:=fun i hi=>by
    rw[Bool.and_eq_true];exact⟨decide_eq_true (by omega),decide_eq_true (by omega)⟩
   have q:∀i:Nat,i<64→i.blt ws.length=true:=fun i hi=>Nat.ble_eq_true_of_le (by omega);refine ae (k _ (by omega)) (ae (q _ (by omega)) (ae (eT p1 (by omega)) ?_));refine ae (k _ (by omega)) (ae (q _ (by omega)) (ae (eT p1 (by omega)) ?_));refine ae (k _ (by omega)) (ae (q _ (by omega)) (ae (eT p1 (by omega)) ?_));refine ae (k _ (by omega)) (ae (q _ (by omega)) (ae (eT p1 (by omega)) ?_));refine ae rfl ?_;exact fin _ (by unfold wordN;rw[if_neg hj2];rfl)
 |false=>
  have hj:j=64:=by have:=of_decide_eq_false hb;omega
  subst hj;refine⟨_,_,fun K hK=>hK,?_⟩;show Fits 1 _ [Blk.ro false la,Blk.row (de (wI ws)) 57 64] _ _;rw[cells64_of p1 p2];exact o3 la hf off c z ws p1 64
def bxDec:List (Option V)→St→Option BX
 |[some (.slice 0 off 64 false c z),some (.ptr 1 0),some (.int .i64 0)],.ro false la::.row ws _ _::_=>some ⟨la,off,c,z,ws,0⟩
 |_,_=>none
noncomputable def lk74G(BL:List V→Nat→Nat→Nat→List V→Nat→Int):Nat→Trans→Trans:=bA 26 (cx 1 (szOf Tryd.prog 26) [0,2,6] bxDec jA bxV bxJ (bxOutG BL)) (ah 9)
theorem bx_loop{f:Fr}{st:St}{Q:Exit→Fr→St→Prop}(h:cx 1 (szOf Tryd.prog 26) [0,2,6] bxDec jA bxV bxJ bxOut f st Q):CodeSatW Tryd.prog none 1 (.loop (dJ Tryd.prog 26 26)) f st Q:=
 bN (P:=Tryd.prog) (T:=T1) (k:=1) (lim:=9) (n:=10) (g:=26) (p0:=26) (lk:=ah 9) aH T1_ok (bn 9 _ _) bxMu bx_roundOk h
theorem lk74_ok:aC Tryd.prog 1 (lk74G blkF) 26:=by
 unfold lk74G;exact cm (bj 9 1 26) (by kernel_rfl) fun f st Q h=>bx_loop h
noncomputable def nq(g:Nat)(lk:Nat→Trans→Trans)(args:List V)(st:St)(R:V→St→Prop):Prop:=fnK Tryd.prog (cqT Tryd.prog T1 9 10) (KG Tryd.prog T1 9 10) lk g args st R
theorem lM{g:Nat}{lk:Nat→Trans→Trans}{args:List V}{st:St}{R:V→St→Prop}(hl:aC Tryd.prog st.length lk g)(h:nq g lk args st R):FnSat Tryd.prog g args st R:=
 jr aH (j9 aH T1_ok 9 10) (mD aH T1_ok 10) hl h
def eG:List V:=de fun _=>0
theorem blk_tree(BL:List V→Nat→Nat→Nat→List V→Nat→Int)(la:List V)(off c z:Nat)(R:V→St→Prop):nq 26 (lk74G BL) [.slice 0 off 64 false c z] [.ro false la] R=
  (
 Fits 1 [.slice 0 off 64 false c z,.ptr 1 0,.int i64 0] [.ro false la,.row eG 57 64] [some (.slice 0 off 64 false c z),some (.ptr 1 0),some
 (.int i64 0)] [.ro false la,.row eG 57 64]∧bif jA {la:=la,off:=off,c:=c,z:=z,ws:=eG,j:=0}then R (.agg (de (BL la
 off 64 0 eG))) [.ro false la,.row (de (BL la off 64 0 eG)) 57 64]else False):=by kernel_rfl
noncomputable def blkG:List V→St→Option (List (Bool×(V×St)))
 |[.slice 0 off 64 false c z],[.ro false la]=>some [(okB la off,(.agg (de (blkF la off 64 0 eG)),[]))]
 |_,_=>none
theorem blk_ok(args:List V)(s:St)(l:List (Bool×(V×St)))(v:V)(n:St)(h:blkG args s=some l)(ho:aP l=some (v,n)):(∀b∈s,ax b.cs=true)∧FnSat Tryd.prog 26 args s (fun u st=>Fits 0 [v] n [some u] st):=by
 unfold blkG at h;split at h
 ·rename_i off c z la;cases h;cases hk:okB la off with
  |false=>rw[hk]at ho;cases ho
  |true=>
   rw[hk]at ho;cases ho;refine⟨by simp[Blk.cs,lD hk],lM (lk:=lk74G blkF) lk74_ok ?_⟩;rw[blk_tree];refine⟨o3 la (lD hk) off c z eG rfl 0,ae ?_ ?_⟩
   ·unfold jA;rw[Bool.and_eq_true,Bool.and_eq_true,Bool.and_eq_true];exact⟨hk,rfl,rfl,rfl⟩
   ·exact⟨[],[.agg (de (blkF la off 64 0 eG))],rfl,rfl,FitsM.of trivial,by simp,fun i hi=>by omega⟩
 ·cases h
end Go.Proofs.YtebkeppoicllmaaDoor
