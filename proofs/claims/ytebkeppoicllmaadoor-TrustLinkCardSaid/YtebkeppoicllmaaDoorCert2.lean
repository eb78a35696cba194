/- Certificates: which may be, one's bytes: what they come to. -/
import Derived.Test.YtebkeppoicllmaaDoorCert1
import Derived.Test.YtebkeppoicllmaaDoorDInts
import Derived.Test.YtebkeppoicllmaaDoorDBool
import Derived.Test.YtebkeppoicllmaaDoorDBack
namespace Go.Proofs.YtebkeppoicllmaaDoor
open Go.IntKind (u8 u16 u32 u64 i8 i16 i32 i64)
open Go Go.Vm Go.RowKit
set_option linter.unusedVariables false
set_option maxRecDepth 100000
set_option linter.unusedSectionVars false
variable [Φ:Frz]
noncomputable def D0:Tab:=⟨addT noT 19 cfP,noL,bf 9⟩
theorem D0_ok:TabOk3 Tryd.prog D0:=⟨b8 aL cf_ok,aM,au 9⟩
theorem cmay_tree(k g:List UInt8)(x:Value)(n:Nat)(cs:List V)(f u:Int)(ca:Bool)(R:V→Prop):runW Tryd.prog D0 9 10 30 [.agg [.str k,.str g,.lst x n cs,.int .i64 f,.int .i64 u,.bool ca]] R=
  (
 bif decide ((↑k.length:Int)>0)then bif decide ((↑k.length:Int)≤64)then bif (↑g.length:Int)==32 then bif decide (f≥0)then bif decide (f≤1099511627776)
 then bif decide (u≥0)then bif decide (u≤1099511627776)then bif okS n cs then R (.bool !!allP cs)else False else R (.bool false)else R (.bool false)else R
 (.bool false)else R (.bool false)else R (.bool false)else R (.bool false)else R (.bool false)):=by kernel_rfl
structure CT where
 k:List UInt8
 g:List UInt8
 x:Value
 n:Nat
 cs:List V
 f:Int
 u:Int
 ca:Bool
def CT.cells(c:CT):List V:=[.str c.k,.str c.g,.lst c.x c.n c.cs,.int .i64 c.f,.int .i64 c.u,.bool c.ca]
def CT.v(c:CT):V:=.agg [.str c.k,.str c.g,.lst c.x c.n c.cs,.int .i64 c.f,.int .i64 c.u,.bool c.ca]
def mayC(k g:List UInt8)(f u:Int):Bool:=decide ((k.length:Int)>0)&&(decide ((k.length:Int)≤64)&&(((g.length:Int)==32)&&(decide (f≥0)&&(decide (f≤1099511627776)&&(decide (u≥0)&&decide (u≤1099511627776))))))
def mayG:List V→St→Option (List (Bool×(V×St)))
 |[.agg [.str k,.str g,p,.int .i64 f,.int .i64 u,.bool _]],st=>match cC st p with
  |some (b,l)=>some [(b&&Nat.ble l.length 9223372036854775807,(.bool (mayC k g f u&&l.all patN),st))]
  |none=>none
 |_,_=>none
theorem cmay_sat(k g:List UInt8)(x:Value)(l:List (List UInt8))(f u:Int)(ca:Bool)(hl:l.length≤9223372036854775807):FnSat Tryd.prog 30 [.agg [.str k,.str g,lstS x l,.int .i64 f,.int .i64 u,.bool ca]] [] (Is (.bool (mayC k g f u&&l.all patN),[])):=by
 refine aJ (lim:=9) (n:=10) aH D0_ok rfl rfl ?_;unfold lstS;rw[cmay_tree,iL hl];have ha:allP (strs l)=l.all patN:=by unfold allP;rw[aA]
 rw[ha];unfold mayC;refine ab (fun h=>?_) (fun h=>by rw[h];rfl);rw[h];refine ab (fun h=>?_) (fun h=>by rw[h];rfl);rw[h];refine ab (fun h=>?_) (fun h=>by rw[h];rfl);rw[h];refine ab (fun h=>?_) (fun h=>by rw[h];rfl);rw[h];refine ab (fun h=>?_) (fun h=>by rw[h];rfl);rw[h];refine ab (fun h=>?_) (fun h=>by rw[h];rfl);rw[h];refine ab (fun h=>?_) (fun h=>by rw[h];rfl);rw[h];simp only[cond_true,Bool.true_and,Bool.not_not]
theorem real_agg6{m:List MB}{a b c d e f:V}{x:Value}(h:real m (.agg [a,b,c,d,e,f])=some x):∃a' b' c' d' e' f',x=.agg #[a',b',c',d',e',f']∧real m a=some a'∧real m b=some b'∧real m c=some c'∧real m d=some d'∧real m e=some e'∧real m f=some f':=by
 obtain⟨xs,h1,rfl⟩:=cV h;obtain⟨a',r1,q1,g1,rfl⟩:=ai h1;obtain⟨b',r2,q2,g2,rfl⟩:=ai g1;obtain⟨c',r3,q3,g3,rfl⟩:=ai g2;obtain⟨d',r4,q4,g4,rfl⟩:=ai g3;obtain⟨e',r5,q5,g5,rfl⟩:=ai g4;obtain⟨f',r6,q6,g6,rfl⟩:=ai g5;simp only[af,Option.some.injEq]at g6;subst g6;exact⟨a',b',c',d',e',f',rfl,q1,q2,q3,q4,q5,q6⟩
theorem gu{m:List MB}{l:List V}{xs:List Value}(h:af m l=some xs):real m (.agg l)=some (.agg xs.toArray):=by simp only[real,h]
theorem cert_frz{B:Nat}{W0 w:World}{m:List MB}{st:St}(hr:Rel B W0 m st w){k g:List UInt8}{p:V}{l:List (List UInt8)}{f u:Int}{ca:Bool}{x:Value}(hv:cC st p=some (true,l))(hx:real m (.agg [.str k,.str g,p,.int .i64 f,.int .i64 u,.bool ca])=some x):
  ∃y,@real gl (Frz.of w) [] (.agg [.str k,.str g,lstS y l,.int .i64 f,.int .i64 u,.bool ca])=some x:=by
 obtain⟨a',b',c',d',e',f',rfl,q1,q2,q3,q4,q5,q6⟩:=real_agg6 hx;have h3:=ed hr hv q3;refine⟨c',?_⟩;have h1:=bE (Ψ:=Frz.of w) (m':=[]) (.str k) a' rfl q1;have h2:=bE (Ψ:=Frz.of w) (m':=[]) (.str g) b' rfl q2;have h4:=bE (Ψ:=Frz.of w) (m':=[]) (.int .i64 f) d' rfl q4;have h5:=bE (Ψ:=Frz.of w) (m':=[]) (.int .i64 u) e' rfl q5;have h6:=bE (Ψ:=Frz.of w) (m':=[]) (.bool ca) f' rfl q6;have mk:∀{v:V} {r:List V} {a:Value} {b:List Value},@real gl (Frz.of w) [] v=some a→@af gl (Frz.of w) [] r=some b→@af gl (Frz.of w) [] (v::r)=some (a::b):=fun h1 h2=>@ay gl (Frz.of w) [] _ _ _ _ h1 h2;exact @gu (Frz.of w) [] _ [a',b',c',d',e',f'] (mk h1 (mk h2 (mk h3 (mk h4 (mk h5 (mk h6 rfl))))))
theorem mayG_ok(args:List V)(s:St)(l:List (Bool×(V×St)))(o:V×St)(h:mayG args s=some l)(ho:aP l=some o):FnSat Tryd.prog 30 args s (Is o):=by
 unfold mayG at h;split at h
 ·rename_i k g p f u ca;split at h
  ·rename_i b ls hv;cases h;obtain⟨hb,rfl⟩:=cM ho;simp only[Bool.and_eq_true]at hb;obtain⟨rfl,h1⟩:=hb;refine eN rfl fun B W0 w m rargs hr ha=>?_;obtain⟨a,r,q1,q2,rfl⟩:=ai ha;simp only[af,Option.some.injEq]at q2;subst q2;obtain⟨y,hy⟩:=cert_frz hr hv q1;exact⟨[.agg [.str k,.str g,lstS y ls,.int .i64 f,.int .i64 u,.bool ca]],by simp only[af,hy],@cmay_sat (Frz.of w) k g y ls f u ca (Nat.le_of_ble_eq_true h1)⟩
  ·cases h
 ·cases h
noncomputable def D1:Tab:=⟨noT,addS noL 24 thG,bf 9⟩
theorem D1_ok:TabOk3 Tryd.prog D1:=⟨aL,cQ aM thG_ok,au 9⟩
theorem spki_tree(k:List UInt8)(R:V→Prop):runW Tryd.prog D1 9 10 12 [.str k] R=
  (
 bif k==[]then R (.str [])else bif decide ((↑k.length:Int)>64)then R (.str [])else bif true&&(true&&(true&&(k.append []).length.ble 1099511627776))then
 bif true&&(true&&(true&&((putB 4 (k.append [])).append []).length.ble 1099511627776))then R (.str (putB 48 ((putB 4 (k.append [])).append [])))else False else
 False):=by kernel_rfl
def du(k:List UInt8):List UInt8:=if k=[]then[]else if k.length>64 then[]else putB 48 (putB 4 k)
def spkiP:List V→Option V
 |[.str k]=>some (.str (du k))
 |_=>none
theorem bL(t:Int)(x:List UInt8):(putB t x).length≤x.length+4:=putB_len t x
theorem spki_ok(args:List V)(v:V)(h:spkiP args=some v):FnSat Tryd.prog 12 args [] (Is (v,[])):=by
 unfold spkiP at h;split at h
 ·rename_i k;cases h;refine aJ (lim:=9) (n:=10) aH D1_ok rfl rfl ?_;rw[spki_tree];unfold du;refine ab (fun h=>?_) (fun h=>?_)
  ·rw[if_pos (by simpa using h)]
  rw[if_neg (by simpa using h)];refine ab (fun h1=>?_) (fun h1=>?_)
  ·rw[if_pos (by have:=of_decide_eq_true h1;omega)]
  have h1:=of_decide_eq_false h1;rw[if_neg (by omega)];have e1:k.append []=k:=List.append_nil k;have e2:(putB 4 k).append []=putB 4 k:=List.append_nil _;have:=bL 4 k;simp only[e1,e2,Bool.true_and];refine ae (Nat.ble_eq_true_of_le (by omega)) (ae (Nat.ble_eq_true_of_le (by omega)) trivial)
 ·cases h
theorem nG(x:Value)(n:Nat)(cs:List V)(i:Int)(bx:List V)(R:Exit→List (Option V)→St→Prop):ao Tryd.prog D1 9 10 (ah 9) 18 122 [1,4,18,19,20] [.ptr 0 0,.nilSlice,.lst x n cs,.int .i64 n,.int .i64 i] [.row bx 27 6] R=
  (
 bif decide (i<(↑n:Int))then bif decide (0≤i)&&decide (i<(↑n:Int))then bif (i.toNat*1).blt cs.length then bif aw (cs.getD (i.toNat*1) (.bool false))
 then bif true&&(true&&(true&&(((aa (cs.getD (i.toNat*1) (.bool false)))).append []).length.ble 1099511627776))then R .normal [some (.ptr 0 0),some
 (.slice 3 0 1 false 0 0),some (.lst x n cs),some (.int i64 (↑n:Int)),some (.int i64 (i64.wrap (i+1)))] [.row bx 27 6,.row [.str
 (aa (cs.getD (i.toNat*1) (.bool false)))] 9 1,.row [.str (putB 130 (((aa (cs.getD (i.toNat*1) (.bool false)))).append []))] 9 1,.row [.str (putB
 130 (((aa (cs.getD (i.toNat*1) (.bool false)))).append []))] 9 1]else False else False else False else False else R (.exit 0) [some (.ptr 0 0),some
 .nilSlice,some (.lst x n cs),some (.int i64 (↑n:Int)),some (.int i64 i)] [.row bx 27 6]):=by kernel_rfl
theorem nF(x:Value)(n:Nat)(cs:List V)(i:Int)(bx o:List V)(k:Nat)(R:Exit→List (Option V)→St→Prop):ao Tryd.prog D1 9 10 (ah 9) 18 122 [1,4,18,19,20] [.ptr 0 0,.slice 1 0 k false 0 0,.lst x n cs,.int .i64 n,.int .i64 i] [.row bx 27 6,.row o 9 1] R=
  (
 bif decide (i<(↑n:Int))then bif decide (0≤i)&&decide (i<(↑n:Int))then bif (i.toNat*1).blt cs.length then bif aw (cs.getD (i.toNat*1) (.bool false))
 then bif true&&(true&&(true&&(((aa (cs.getD (i.toNat*1) (.bool false)))).append []).length.ble 1099511627776))then bif o.length.beq (k*1)then bif (k+
 1).ble 9223372036854775807&&((k+1)*16).ble 140737488355328 then R .normal [some (.ptr 0 0),some (.slice 4 0 (k+1) false 0 0),some (.lst x n cs),some
 (.int i64 (↑n:Int)),some (.int i64 (i64.wrap (i+1)))] [.row bx 27 6,.dead,.row [.str (aa (cs.getD (i.toNat*1) (.bool
 false)))] 9 1,.row [.str (putB 130 (((aa (cs.getD (i.toNat*1) (.bool false)))).append []))] 9 1,.row (o++[V.str (putB 130 (((aa (cs.getD (i.toNat*
 1) (V.bool false)))).append []))]) 9 1]else False else False else False else False else False else False else R (.exit 0) [some (.ptr 0 0),some (.slice 1 0 k
 false 0 0),some (.lst x n cs),some (.int i64 (↑n:Int)),some (.int i64 i)] [.row bx 27 6,.row o 9 1]):=by kernel_rfl
theorem jg{s:List UInt8}(h:patN s=true):s.length≤255:=by
 unfold patN mayN at h;rw[Bool.and_eq_true]at h;have h1:=of_decide_eq_true h.1;unfold eC at h1;split at h1
 ·rw[List.length_drop]at h1;omega
 ·omega
def aY(s:List UInt8):List UInt8:=putB 130 s
structure EN where
 c:CT
 i:Nat
def enSl:Nat→V
 |0=>.nilSlice
 |i+1=>.slice 1 0 (i+1) false 0 0
def enRw(cs:List V):Nat→St
 |0=>[]
 |i+1=>[.row (strs (((cs.map aa).take (i+1)).map aY)) 9 1]
def enV(x:EN):List V:=[.ptr 0 0,enSl x.i,.lst x.c.x x.c.n x.c.cs,.int .i64 x.c.n,.int .i64 x.i]
def enJ(x:EN):St:=.row x.c.cells 27 6::enRw x.c.cs x.i
def jx(x:EN):Bool:=okS x.c.n x.c.cs&&(allP x.c.cs&&(Nat.ble x.i x.c.n&&Nat.ble x.c.n 64))
def enMu(x:EN):Nat:=x.c.n-x.i
def enDec:List (Option V)→St→Option EN
 |[some (.ptr 0 0),some .nilSlice,some (.lst _ _ _),some (.int .i64 _),some (.int .i64 0)],.row [.str k,.str g,.lst x n cs,.int .i64 f,.int .i64 u,.bool ca] _ _::_=>some ⟨⟨k,g,x,n,cs,f,u,ca⟩,0⟩
 |_,_=>none
def enOut:Asks EN:=fun x K=>
 (x.c.n=0→K (.exit 0) [.ptr 0 0,.nilSlice,.lst x.c.x x.c.n x.c.cs,.int .i64 x.c.n,.int .i64 x.c.n] [.row x.c.cells 27 6])∧
 (∀j:Nat,x.c.n=j+1→K (.exit 0) [.ptr 0 0,.slice 1 0 (j+1) false 0 0,.lst x.c.x x.c.n x.c.cs,.int .i64 x.c.n,.int .i64 x.c.n] [.row x.c.cells 27 6,.row (strs ((x.c.cs.map aa).map aY)) 9 1])
theorem en_fits0(c:CT)(i:Int):Fits 0 [.ptr 0 0,.nilSlice,.lst c.x c.n c.cs,.int .i64 c.n,.int .i64 i] [.row c.cells 27 6] [some (.ptr 0 0),some .nilSlice,some (.lst c.x c.n c.cs),some (.int .i64 c.n),some (.int .i64 i)] [.row c.cells 27 6]:=
 ⟨[0],[.ptr 0 0,.nilSlice,.lst c.x c.n c.cs,.int .i64 c.n,.int .i64 i],rfl,rfl,FitsM.of ⟨.inr ⟨_,.inl rfl,rfl⟩,trivial⟩,by decide,fun i hi=>by omega⟩
theorem me(c:CT)(i:Int)(l:List (List UInt8))(k b:Nat)(st:St)(h0:st[0]?=some (.row c.cells 27 6))(hb:st[b]?=some (.row (strs l) 9 1))(hb0:b≠0):
  Fits 0 [.ptr 0 0,.slice 1 0 k false 0 0,.lst c.x c.n c.cs,.int .i64 c.n,.int .i64 i] [.row c.cells 27 6,.row (strs l) 9 1] [some (.ptr 0 0),some (.slice b 0 k false 0 0),some (.lst c.x c.n c.cs),some (.int .i64 c.n),some (.int .i64 i)] st:=
 ⟨[0,b],[.ptr 0 0,.slice b 0 k false 0 0,.lst c.x c.n c.cs,.int .i64 c.n,.int .i64 i],rfl,rfl,FitsM.of ⟨.inr ⟨_,.inl rfl,h0⟩,.inr ⟨.row (strs l) 9 1,.inl (by simp only[renB,av _ (bB l)]),hb⟩,trivial⟩,by simp;omega,fun i hi=>by omega⟩
theorem en_roundOk(x:EN)(hx:jx x=true):ao Tryd.prog D1 9 10 (ah 9) 18 122 [1,4,18,19,20] (enV x) (enJ x) (aR 0 jx enV enJ enMu enOut x):=by
 obtain⟨⟨k,g,y,n,cs,f,u,ca⟩,i⟩:=x;unfold jx at hx;simp only[Bool.and_eq_true]at hx;have hx1:okS n cs=true:=hx.1;have hx2:allP cs=true:=hx.2.1;have p1:i≤n:=Nat.le_of_ble_eq_true hx.2.2.1;have p0:n≤64:=Nat.le_of_ble_eq_true hx.2.2.2;obtain⟨l,rfl,rfl,p2,p3⟩:=fa hx1;have hp:l.all patN=true:=by unfold allP at hx2;rw[aA]at hx2;exact hx2
 have pre2:i+1≤l.length→jx ⟨⟨k,g,y,l.length,strs l,f,u,ca⟩,i+1⟩=true:=fun h=>by
  unfold jx;simp only[Bool.and_eq_true];exact⟨hx1,hx2,Nat.ble_eq_true_of_le h,Nat.ble_eq_true_of_le p0⟩
 generalize hC:(⟨k,g,y,l.length,strs l,f,u,ca⟩:CT)=C at*
 have hcn:C.n=l.length:=by rw[←hC]
 have hcx:C.x=y:=by rw[←hC]
 have hcc:C.cs=strs l:=by rw[←hC]
 have hV:enV ⟨C,i⟩=[.ptr 0 0,enSl i,.lst y l.length (strs l),.int .i64 l.length,.int .i64 i]:=by unfold enV;rw[hcn,hcx,hcc]
 have hJ:enJ ⟨C,i⟩=.row C.cells 27 6::enRw (strs l) i:=by unfold enJ;rw[hcc]
 rw[hV,hJ];have tk:∀c r,l.drop i=c::r→(l.take (i+1)).map aY=(l.take i).map aY++[aY c]:=fun c r h=>by
  obtain⟨e1,_,e3⟩:=bF h;rw[List.take_add_one,e1,List.map_append];rfl
 have q2:decide ((0:Int)≤(i:Int))=true:=decide_eq_true (by omega);have q3:i≤64→i64.wrap ((i:Int)+1)=((i+1:Nat):Int):=fun _=>by rw[IntWalk.i64_in _ ⟨by omega,by omega⟩];omega
 have q3:=q3 (by omega);have apn:∀c:List UInt8,c.append []=c:=fun c=>List.append_nil c;cases hd:l.drop i with
 |nil=>
  have hi:=dc hd p1;have q1:decide ((i:Int)<(l.length:Int))=false:=decide_eq_false (by omega);cases i with
  |zero=>
   show ao Tryd.prog D1 9 10 (ah 9) 18 122 [1,4,18,19,20] [.ptr 0 0,.nilSlice,.lst y l.length (strs l),.int .i64 l.length,.int .i64 (0:Nat)] [.row C.cells 27 6] _;rw[nG,q1,cond_false];refine⟨[.ptr 0 0,.nilSlice,.lst C.x C.n C.cs,.int .i64 C.n,.int .i64 (0:Nat)],_,fun K hK=>?_,by have:=en_fits0 C (0:Nat);rw[hcn,hcx,hcc]at this ⊢;exact this⟩;have:=hK.1 (hcn.trans hi.symm);rw[show(C.n:Int)=((0:Nat):Int) by rw[hcn,←hi]]at this ⊢;exact this
  |succ j=>
   show ao Tryd.prog D1 9 10 (ah 9) 18 122 [1,4,18,19,20] [.ptr 0 0,.slice 1 0 (j+1) false 0 0,.lst y l.length (strs l),.int .i64 l.length,.int .i64 ((j+1:Nat):Int)] [.row C.cells 27 6,.row (strs ((((strs l).map aa).take (j+1)).map aY)) 9 1] _;rw[nF,q1,cond_false,aA,List.take_of_length_le (by omega)];refine⟨[.ptr 0 0,.slice 1 0 (j+1) false 0 0,.lst C.x C.n C.cs,.int .i64 C.n,.int .i64 ((j+1:Nat):Int)],[.row C.cells 27 6,.row (strs (l.map aY)) 9 1],fun K hK=>?_,by have:=me C ((j+1:Nat):Int) (l.map aY) (j+1) 1 [.row C.cells 27 6,.row (strs (l.map aY)) 9 1] rfl rfl (by omega);rw[hcn,hcx,hcc]at this ⊢;exact this⟩;have:=hK.2 j (hcn.trans hi.symm);have e:(C.n:Int)=((j+1:Nat):Int):=by rw[hcn,←hi]
   rw[e,show(⟨C,j+1⟩:EN).c.cs=strs l from hcc,aA]at this;rw[e];rw[hcc];exact this
 |cons c r=>
  obtain⟨e1,e2,e3⟩:=bF hd;obtain⟨e4,e5⟩:=i4 hd;have q1:decide ((i:Int)<(l.length:Int))=true:=decide_eq_true (by omega);have hc:=jg (List.all_eq_true.1 hp c (List.mem_of_getElem? e1));have q4:c.length.ble 1099511627776=true:=Nat.ble_eq_true_of_le (by omega);have hout:∀K,enOut ⟨C,i⟩ K→enOut ⟨C,i+1⟩ K:=fun K hK=>hK;cases i with
  |zero=>
   show ao Tryd.prog D1 9 10 (ah 9) 18 122 [1,4,18,19,20] [.ptr 0 0,.nilSlice,.lst y l.length (strs l),.int .i64 l.length,.int .i64 ((0:Nat):Int)] [.row C.cells 27 6] _;rw[nG];simp only[q1,q2,Int.toNat_natCast,e4,e5,aw,aa,cond_true,Bool.and_true,apn,q4,q3];refine⟨⟨C,0+1⟩,pre2 (by omega),?_,by simp only[enMu];omega,hout⟩;have hV2:enV ⟨C,0+1⟩=[.ptr 0 0,.slice 1 0 1 false 0 0,.lst C.x C.n C.cs,.int .i64 C.n,.int .i64 ((0+1:Nat):Int)]:=rfl;have hJ2:enJ ⟨C,0+1⟩=[.row C.cells 27 6,.row (strs [aY c]) 9 1]:=by
    show[Blk.row C.cells 27 6,.row (strs (((C.cs.map aa).take (0+1)).map aY)) 9 1]=_;rw[hcc,aA,tk c r hd];rfl
   rw[hV2,hJ2,←hcn,←hcx,←hcc];exact me C _ [aY c] 1 3 _ rfl rfl (by omega)
  |succ j=>
   show ao Tryd.prog D1 9 10 (ah 9) 18 122 [1,4,18,19,20] [.ptr 0 0,.slice 1 0 (j+1) false 0 0,.lst y l.length (strs l),.int .i64 l.length,.int .i64 ((j+1:Nat):Int)] [.row C.cells 27 6,.row (strs ((((strs l).map aa).take (j+1)).map aY)) 9 1] _;rw[nF,aA];have q5:(strs ((l.take (j+1)).map aY)).length.beq ((j+1)*1)=true:=by
    rw[aT,List.length_map,List.length_take,Nat.mul_one,Nat.min_eq_left (by omega)];exact Nat.beq_refl _
   have q6:((j+1+1).ble 9223372036854775807&&((j+1+1)*16).ble 140737488355328)=true:=by
    rw[Bool.and_eq_true];exact⟨Nat.ble_eq_true_of_le (by omega),Nat.ble_eq_true_of_le (by omega)⟩
   simp only[q1,q2,Int.toNat_natCast,e4,e5,aw,aa,cond_true,Bool.and_true,apn,q4,q3,q5,q6];refine⟨⟨C,j+1+1⟩,pre2 (by omega),?_,by simp only[enMu];omega,hout⟩;have hV2:enV ⟨C,j+1+1⟩=[.ptr 0 0,.slice 1 0 (j+1+1) false 0 0,.lst C.x C.n C.cs,.int .i64 C.n,.int .i64 ((j+1+1:Nat):Int)]:=rfl;have hJ2:enJ ⟨C,j+1+1⟩=[.row C.cells 27 6,.row (strs ((l.take (j+1)).map aY++[aY c])) 9 1]:=by
    show[Blk.row C.cells 27 6,.row (strs (((C.cs.map aa).take (j+1+1)).map aY)) 9 1]=_;rw[hcc,aA,tk c r hd]
   have hap:strs ((l.take (j+1)).map aY)++[V.str (putB 130 c)]=strs ((l.take (j+1)).map aY++[aY c]):=by
    unfold strs;rw[List.map_append];rfl
   rw[hV2,hJ2,←hcn,←hcx,←hcc,hap];exact me C _ _ (j+1+1) 4 _ rfl rfl (by omega)
noncomputable def lk29:Nat→Trans→Trans:=bA 122 (cx 0 (szOf Tryd.prog 18) [1,4,18,19,20] enDec jx enV enJ enOut) (ah 9)
theorem lk29_ok:aC Tryd.prog 0 lk29 18:=by
 unfold lk29;exact cm (bj 9 0 18) (by kernel_rfl) fun f st Q h=>bN (P:=Tryd.prog) (T:=D1) (k:=0) (lim:=9) (n:=10) (g:=18) (p0:=122) (lk:=ah 9) aH D1_ok (bn 9 _ _) enMu en_roundOk h
noncomputable def D2:Tab:=⟨addP (addP (addP noT 12 spkiP) 31 intF) 32 boolF,addS (addS noL 24 thG) 30 mayG,dS (bf 9) 18 0 lk29⟩
theorem D2_ok:TabOk3 Tryd.prog D2:=⟨aQ (aQ (aQ aL spki_ok) int_ok) bool_ok,cQ (cQ aM thG_ok) mayG_ok,bT (au 9) lk29_ok⟩
theorem en_tree(k g:List UInt8)(x:Value)(n:Nat)(cs:List V)(f u:Int)(ca:Bool)(R:V→Prop):runW Tryd.prog D2 9 10 18 [.agg [.str k,.str g,.lst x n cs,.int .i64 f,.int .i64 u,.bool ca]] R=
  (
 bif cs.length.beq (n*1)&&(cs.all aw&&cs.length.beq n)&&(List.map aa cs).length.ble 9223372036854775807 then bif !(mayC k g f u&&(List.map aa cs).all
 patN)then R (.tuple [.str [],.int i64 4])else bif decide ((↑n:Int)>64)then R (.tuple [.str [],.int i64 4])else Fits 0 [.ptr 0 0,
 .nilSlice,.lst x n cs,.int i64 (↑n:Int),.int i64 0] [.row [.str k,.str g,.lst x n cs,.int i64 f,.int i64 u,.bool
 ca] 27 6] [some (.ptr 0 0),some .nilSlice,some (.lst x n cs),some (.int i64 (↑n:Int)),some (.int i64 0)] [.row [.str k,.str g,.lst x n
 cs,.int i64 f,.int i64 u,.bool ca] 27 6]∧bif jx {c:={k:=k,g:=g,x:=x,n:=n,cs:=cs,f:=f,u:=u,ca:=ca},i:=0}then(n
 =0→bif true&&(true&&(true&&[g].flatten.length.ble 1099511627776))then bif true&&(true&&(true&&[intL f].flatten.length.ble 1099511627776))then bif true&&
 (true&&(true&&[intL u].flatten.length.ble 1099511627776))then bif true&&(true&&(true&&[dW ca].flatten.length.ble 1099511627776))then bif true&&(true&&
 (true&&[du k,putB 4 [g].flatten,[48,0],putB 2 [intL f].flatten,putB 2 [intL u].flatten,putB 1 [dW ca].flatten].flatten.length.ble 1099511627776))then bif
 decide ((↑(putB 48 [du k,putB 4 [g].flatten,[48,0],putB 2 [intL f].flatten,putB 2 [intL u].flatten,putB 1 [dW ca].flatten].flatten).length:Int)>512)then
 R (.tuple [.str [],.int i64 40])else R (.tuple [.str (putB 48 [du k,putB 4 [g].flatten,[48,0],putB 2 [intL f].flatten,putB 2 [intL u].flatten,putB
 1 [dW ca].flatten].flatten),.int i64 0])else False else False else False else False else False)∧∀(j:Nat),n=j+1→bif true&&(true&&(true&&
 [g].flatten.length.ble 1099511627776))then bif (0+(j+1)*1).ble (strs (List.map aY (List.map aa cs))).length&&((List.take ((j+1)*1) (List.drop 0 (strs
 (List.map aY (List.map aa cs))))).all aw&&(List.take ((j+1)*1) (List.drop 0 (strs (List.map aY (List.map aa cs))))).length.beq (j+1))&&(true
 &&((List.map aa (List.take ((j+1)*1) (List.drop 0 (strs (List.map aY (List.map aa cs)))))).length.ble 9223372036854775807&&(List.map aa (List.take
 ((j+1)*1) (List.drop 0 (strs (List.map aY (List.map aa cs)))))).flatten.length.ble 1099511627776))then bif true&&(true&&(true&&[intL
 f].flatten.length.ble 1099511627776))then bif true&&(true&&(true&&[intL u].flatten.length.ble 1099511627776))then bif true&&(true&&(true&&[dW
 ca].flatten.length.ble 1099511627776))then bif true&&(true&&(true&&[du k,putB 4 [g].flatten,putB 48 (List.map aa (List.take ((j+1)*1) (List.drop 0
 (strs (List.map aY (List.map aa cs)))))).flatten,putB 2 [intL f].flatten,putB 2 [intL u].flatten,putB 1 [dW ca].flatten].flatten.length.ble 1099511627776))
 then bif decide ((↑(putB 48 [du k,putB 4 [g].flatten,putB 48 (List.map aa (List.take ((j+1)*1) (List.drop 0 (strs (List.map aY (List.map aa
 cs)))))).flatten,putB 2 [intL f].flatten,putB 2 [intL u].flatten,putB 1 [dW ca].flatten].flatten).length:Int)>512)then R (.tuple [.str [],.int i64
 40])else R (.tuple [.str (putB 48 [du k,putB 4 [g].flatten,putB 48 (List.map aa (List.take ((j+1)*1) (List.drop 0 (strs (List.map aY (List.map aa
 cs)))))).flatten,putB 2 [intL f].flatten,putB 2 [intL u].flatten,putB 1 [dW ca].flatten].flatten),.int i64 0])else False else False else False else False
 else False else False else False else False):=by kernel_rfl
def dy(k g:List UInt8)(l:List (List UInt8))(f u:Int)(ca:Bool):List UInt8:=
 [du k,putB 4 g,putB 48 (l.map aY).flatten,putB 2 (intL f),putB 2 (intL u),putB 1 (dW ca)].flatten
def fu(k g:List UInt8)(l:List (List UInt8))(f u:Int):Bool:=mayC k g f u&&l.all patN&&decide ((l.length:Int)≤64)
def encE(k g:List UInt8)(l:List (List UInt8))(f u:Int)(ca:Bool):Int:=bif fu k g l f u then(bif decide (((putB 48 (dy k g l f u ca)).length:Int)>512)then 40 else 0)else 4
def encB(k g:List UInt8)(l:List (List UInt8))(f u:Int)(ca:Bool):List UInt8:=bif fu k g l f u then(bif decide (((putB 48 (dy k g l f u ca)).length:Int)>512)then[]else putB 48 (dy k g l f u ca))else[]
theorem js:∀(l:List (List UInt8)) (b:Nat),(∀s∈l,s.length≤b)→l.flatten.length≤l.length*b
 |[],b,_=>by simp
 |s::r,b,h=>by
  have h1:=h s (by simp);have h2:=js r b (fun t ht=>h t (by simp[ht]));simp only[List.flatten_cons,List.length_append,List.length_cons];rw[Nat.add_mul];omega
theorem hZ(n:Int):(intL n).length≤8:=by rw[intL_len];have:=ji n;omega
theorem en_sat(k g:List UInt8)(x:Value)(l:List (List UInt8))(f u:Int)(ca:Bool)(hl:l.length≤9223372036854775807):
  FnSat Tryd.prog 18 [.agg [.str k,.str g,lstS x l,.int .i64 f,.int .i64 u,.bool ca]] [] (Is (.tuple [.str (encB k g l f u ca),.int .i64 (encE k g l f u ca)],[])):=by
 refine aJ (lim:=9) (n:=10) aH D2_ok rfl rfl ?_;unfold lstS;rw[en_tree];have e0:(strs l).length.beq (l.length*1)=true:=by rw[aT,Nat.mul_one];exact Nat.beq_refl _
 have e1:(strs l).length.beq l.length=true:=by rw[aT];exact Nat.beq_refl _
 have e2:l.length.ble 9223372036854775807=true:=Nat.ble_eq_true_of_le hl;simp only[e0,e1,cS,aA,e2,Bool.and_self,cond_true];refine ab (fun h=>?_) (fun h=>?_)
 ·have h:(mayC k g f u&&l.all patN)=false:=by rw[Bool.not_eq_true']at h;exact h
  have e:fu k g l f u=false:=by unfold fu;rw[h,Bool.false_and]
  unfold encB encE;rw[e];rfl
 have h:(mayC k g f u&&l.all patN)=true:=by rw[Bool.not_eq_false']at h;exact h
 have hm:=h;rw[Bool.and_eq_true]at hm;refine ab (fun h1=>?_) (fun h1=>?_)
 ·have h1:=of_decide_eq_true h1;have e:fu k g l f u=false:=by unfold fu;rw[h,Bool.true_and];exact decide_eq_false (by omega)
  unfold encB encE;rw[e];rfl
 have h1:=of_decide_eq_false h1;have e:fu k g l f u=true:=by unfold fu;rw[h,Bool.true_and];exact decide_eq_true (by omega)
 have hpre:jx ⟨⟨k,g,x,l.length,strs l,f,u,ca⟩,0⟩=true:=by
  unfold jx allP;simp only[Bool.and_eq_true,aA];exact⟨iL hl,hm.2,Nat.ble_eq_true_of_le (Nat.zero_le _),Nat.ble_eq_true_of_le (by omega)⟩
 have hmay:=hm.1;unfold mayC at hmay;simp only[Bool.and_eq_true,decide_eq_true_eq]at hmay;have hk:k.length≤64:=by omega
 have hg:g.length=32:=by have:=beq_iff_eq.1 hmay.2.2.1;omega
 have hsp:(du k).length≤72:=by
  have a:=bL 4 k;have b:=bL 48 (putB 4 k);unfold du;split
  ·simp
  ·split
   ·simp
   ·omega
 have hF:(l.map aY).flatten.length≤64*300:=by
  have:=js (l.map aY) 300 (fun s hs=>by
   obtain⟨t,ht,rfl⟩:=List.mem_map.1 hs;have:=jg (List.all_eq_true.1 hm.2 t ht);have b:=bL 130 t;unfold aY;omega)
  rw[List.length_map]at this;have h64:l.length≤64:=by omega
  exact Nat.le_trans this (Nat.mul_le_mul_right _ h64)
 have hf8:=hZ f;have hu8:=hZ u;have hca:(dW ca).length≤1:=by cases ca<;>exact Nat.le_refl _
 have b1:=bL 4 g;have b2:=bL 2 (intL f);have b3:=bL 2 (intL u);have b4:=bL 1 (dW ca);have b5:=bL 48 (l.map aY).flatten;have one:∀s:List UInt8,[s].flatten=s:=fun s=>by simp
 have small:∀s:List UInt8,s.length≤100000→s.length.ble 1099511627776=true:=fun s h=>Nat.ble_eq_true_of_le (by omega);have hin:(dy k g l f u ca).length≤100000:=by
  unfold dy;simp only[List.flatten_cons,List.flatten_nil,List.length_append,List.length_nil];omega
 have fin:∀(s:List UInt8),s=dy k g l f u ca→(bif true&&(true&&(true&&s.length.ble 1099511627776))then(bif decide (((putB 48 s).length:Int)>512)then V.tuple [V.str [],V.int .i64 40]=V.tuple [.str (encB k g l f u ca),.int .i64 (encE k g l f u ca)]else V.tuple [V.str (putB 48 s),V.int .i64 0]=V.tuple [.str (encB k g l f u ca),.int .i64 (encE k g l f u ca)])else False):=by
  rintro s rfl;simp only[Bool.true_and,small _ hin,cond_true];unfold encB encE;rw[e];refine ab (fun h=>?_) (fun h=>?_)<;>(rw[h];rfl)
 refine⟨en_fits0 ⟨k,g,x,l.length,strs l,f,u,ca⟩ 0,ae hpre ⟨fun h0=>?_,fun j hj=>?_⟩⟩
 ·have hl0:l=[]:=List.eq_nil_of_length_eq_zero h0;subst hl0;simp only[one];refine ae (by simp only[Bool.true_and];exact small _ (by omega)) (ae (by simp only[Bool.true_and];exact small _ (by omega)) (ae (by simp only[Bool.true_and];exact small _ (by omega)) (ae (by simp only[Bool.true_and];exact small _ (by omega)) ?_)));exact fin _ rfl
 ·have t1:List.take ((j+1)*1) (List.drop 0 (strs (l.map aY)))=strs (l.map aY):=by
   rw[List.drop_zero];exact List.take_of_length_le (by rw[aT,List.length_map];omega)
  have t2:(0+(j+1)*1).ble (strs (l.map aY)).length=true:=Nat.ble_eq_true_of_le (by rw[aT,List.length_map];omega);have t3:(strs (l.map aY)).length.beq (j+1)=true:=by rw[aT,List.length_map,hj];exact Nat.beq_refl _
  have t4:(l.map aY).length.ble 9223372036854775807=true:=Nat.ble_eq_true_of_le (by rw[List.length_map];omega);simp only[one,t1,t2,t3,t4,cS,aA,Bool.true_and];refine ae (small _ (by omega)) (ae (small _ (by omega)) (ae (small _ (by omega)) (ae (small _ (by omega)) (ae (small _ (by omega)) ?_))));have:=fin _ rfl;simp only[Bool.true_and]at this;exact this
end Go.Proofs.YtebkeppoicllmaaDoor
