/- Names: whether a text is one: what it comes to. -/
import Derived.Test.YtebkeppoicllmaaDoorName
namespace Go.Proofs.YtebkeppoicllmaaDoor
open Go Go.Vm Go.RowKit
set_option linter.unusedVariables false
set_option maxRecDepth 100000
set_option linter.unusedSectionVars false
variable [Φ:Frz]
def dk:Code→Option (Array Tmp×Code×Code)
 |.seq a b=>(dk a).or (dk b)
 |.cond _ a b=>(dk a).or (dk b)
 |.block _ c=>dk c
 |.loop c=>dk c
 |.rangeFunc _ ps asg bd=>some (ps,asg,bd)
 |_=>none
noncomputable def nmRg:Array Tmp×Code×Code:=(dk (fi Tryd.prog 36)).getD (#[],.skip,.skip)
noncomputable def nmAs:Code:=nmRg.2.1
noncomputable def nmBd:Code:=nmRg.2.2
noncomputable def gY(P:Program)(g:Nat)(s:LoopState)(p:Option Code)(T:List (Nat×V))(dn:Nat):Blk:=match dk (fi P g)with
 |some (ps,asg,bd)=>.loop s p (szOf P g) (io .lf T) ps asg bd dn
 |none=>.dead
def nmT:List (Nat×V):=[(2,.ptr 0 0),(3,.ptr 1 0)]
noncomputable def nmL(s:LoopState)(p:Option Code):Blk:=gY Tryd.prog 36 s p nmT 3
noncomputable def nmM(d:Bool)(s:List UInt8)(l:LoopState)(p:Option Code):St:=[.row [.bool false] 4 1,.row [.bool d] 4 1,.row [.str s] 9 1,.defd,nmL l p]
theorem nm_round(d:Bool)(s:List UInt8)(R:Exit→List (Option V)→St→Prop):ao Tryd.prog N2 9 10 (ah 9) 53 2 [0,1] [.yield 4,.ptr 2 0] (nmM d s .ready none) R=
  (
 bif fJ s then bif !gk (cutB s)then R .ret [some (V.yield 4),some (.ptr 2 0)] [.row [.bool false] 4 1,.row [.bool d] 4 1,.row [.str s] 9 1,
 Blk.defd,nmL LoopState.done (some Code.ret)]else bif !cutM s then R .ret [some (V.yield 4),some (.ptr 2 0)] [.row [.bool false] 4 1,.row [.bool (gk
 (cutB s)&&dp (cutB s))] 4 1,.row [.str s] 9 1,Blk.defd,nmL LoopState.ready none]else R .normal [some (V.yield 4),some (.ptr 2 0)] [.row [.bool
 false] 4 1,.row [.bool (gk (cutB s)&&dp (cutB s))] 4 1,.row [.str (cutR s)] 9 1,Blk.defd,nmL LoopState.ready none]else False):=by kernel_rfl
theorem ij{s:List UInt8}(h:cutM s=true):(cutR s).length<s.length:=by
 unfold cutM at h;unfold cutR;rcases ii s with⟨_,h3⟩|⟨o,_,h3,h4⟩
 ·rw[h3]at h;cases h
 ·rw[h4,Option.getD_some,List.length_drop];omega
theorem cutR_le(s:List UInt8):(cutR s).length≤s.length:=by
 unfold cutR;rcases ii s with⟨_,h3⟩|⟨o,_,h3,h4⟩
 ·rw[h3];simp
 ·rw[h4,Option.getD_some,List.length_drop];omega
def nmA:Nat→List UInt8→Bool×Bool
 |0,_=>(false,false)
 |k+1,s=>bif gk (cutB s)then(bif cutM s then nmA k (cutR s)else(true,dp (cutB s)))else(false,false)
theorem nmA_fuel:∀(k j:Nat) (s:List UInt8),s.length<k→s.length<j→nmA k s=nmA j s
 |0,_,s,h,_=>by omega
 |_+1,0,s,_,h=>by omega
 |k+1,j+1,s,h1,h2=>by
  rw[nmA,nmA];cases hl:gk (cutB s)with
  |false=>rfl
  |true=>
   cases hm:cutM s with
   |false=>rfl
   |true=>
    have hlt:=ij hm;rw[cond_true,cond_true,cond_true,cond_true];exact nmA_fuel k j _ (by omega) (by omega)
def nmO(s:List UInt8):Bool:=(nmA (s.length+1) s).1
def nmD(s:List UInt8):Bool:=(nmA (s.length+1) s).2
theorem nm_bad{s:List UInt8}(h:gk (cutB s)=false):nmO s=false:=by unfold nmO;rw[nmA,h];rfl
theorem nm_end{s:List UInt8}(h:gk (cutB s)=true)(hm:cutM s=false):nmO s=true∧nmD s=dp (cutB s):=by unfold nmO nmD;rw[nmA,h,hm];exact⟨rfl,rfl⟩
theorem nm_next{s:List UInt8}(h:gk (cutB s)=true)(hm:cutM s=true):nmO s=nmO (cutR s)∧nmD s=nmD (cutR s):=by
 have hlt:=ij hm;unfold nmO nmD;rw[nmA,h,hm,cond_true,cond_true,nmA_fuel s.length ((cutR s).length+1) _ (by omega) (by omega)];exact⟨rfl,rfl⟩
structure NM where
 d:Bool
 s:List UInt8
def nmV(_:NM):List V:=[.yield 4,.ptr 2 0]
noncomputable def nmJ(x:NM):St:=nmM x.d x.s .ready none
def nmPre(x:NM):Bool:=fJ x.s
def nmMu(x:NM):Nat:=x.s.length
noncomputable def nmDec:List (Option V)→St→Option NM
 |[some (.yield 4),some (.ptr 2 0)],(.row [.bool false] _ _)::(.row [.bool d] _ _)::(.row [.str s] _ _)::_=>some ⟨d,s⟩
 |_,_=>none
noncomputable def oy(o d:Bool)(K:Exit→List V→St→Prop):Prop:=
 bif o then ∀s:List UInt8,K .ret [.yield 4,.ptr 2 0] (nmM d s .ready none)else ∀(e:Bool) (s:List UInt8),K .ret [.yield 4,.ptr 2 0] (nmM e s .done (some .ret))
noncomputable def nmOut:Asks NM:=fun x K=>oy (nmO x.s) (nmD x.s) K
theorem nmL_fit(σ:List Nat)(h0:σ[0]?=some 0)(h1:σ[1]?=some 1)(h3:σ[3]?=some 3)(s:LoopState)(p:Option Code):FitB σ (nmL s p) (nmL s p):=by
 unfold nmL gY;split
 ·refine .inr ⟨_,_,_,_,_,_,_,_,_,_,rfl,rfl,h3,FitT.of (fun t v hm=>?_)⟩;simp only[nmT,List.mem_cons,Prod.mk.injEq,List.not_mem_nil,or_false]at hm;rcases hm with⟨rfl,rfl⟩|⟨rfl,rfl⟩
  ·exact⟨.ptr 0 0,by simp[renV,h0],rfl⟩
  ·exact⟨.ptr 1 0,by simp[renV,h1],rfl⟩
 ·exact .inl rfl
theorem ox(d:Bool)(s:List UInt8)(l:LoopState)(p:Option Code):Fits 5 [.yield 4,.ptr 2 0] (nmM d s l p) [some (.yield 4),some (.ptr 2 0)] (nmM d s l p):=
 ⟨[0,1,2,3,4],[.yield 4,.ptr 2 0],rfl,rfl,FitsM.of ⟨.inr ⟨_,.inl rfl,rfl⟩,.inr ⟨_,.inl rfl,rfl⟩,.inr ⟨_,.inl rfl,rfl⟩,.inr ⟨_,.inl rfl,rfl⟩,.inr ⟨_,nmL_fit _ rfl rfl rfl l p,rfl⟩,trivial⟩,by decide,fun i hi=>by
   match i,hi with
   |0,_|1,_|2,_|3,_|4,_=>rfl⟩
theorem nm_roundOk(x:NM)(hx:nmPre x=true):ao Tryd.prog N2 9 10 (ah 9) 53 2 [0,1] (nmV x) (nmJ x) (aR 5 nmPre nmV nmJ nmMu nmOut x):=by
 obtain⟨d,s⟩:=x;have hx:fJ s=true:=hx;show ao Tryd.prog N2 9 10 (ah 9) 53 2 [0,1] [.yield 4,.ptr 2 0] (nmM d s .ready none) _;rw[nm_round,hx,cond_true];cases hl:gk (cutB s)with
 |false=>
  refine⟨_,_,fun K hK=>?_,ox d s .done (some .ret)⟩;have hK:oy (nmO s) (nmD s) K:=hK;rw[nm_bad hl]at hK;exact hK d s
 |true=>
  cases hm:cutM s with
  |false=>
   obtain⟨h1,h2⟩:=nm_end hl hm;refine⟨_,_,fun K hK=>?_,ox _ s .ready none⟩;have hK:oy (nmO s) (nmD s) K:=hK;rw[h1,h2]at hK;exact hK s
  |true=>
   obtain⟨h1,h2⟩:=nm_next hl hm;refine⟨⟨dp (cutB s),cutR s⟩,?_,ox _ (cutR s) .ready none,ij hm,fun K hK=>?_⟩
   ·exact decide_eq_true (Nat.le_trans (cutR_le s) (of_decide_eq_true hx))
   ·have hK:oy (nmO s) (nmD s) K:=hK;rw[h1,h2]at hK;exact hK
noncomputable def lk55:Nat→Trans→Trans:=bA 2 (cx 5 (szOf Tryd.prog 53) [0,1] nmDec nmPre nmV nmJ nmOut) (ah 9)
theorem lk55_ok:aC Tryd.prog 5 lk55 53:=by
 unfold lk55;exact cm (bj 9 5 53) (by kernel_rfl) fun f st Q h=>bN (P:=Tryd.prog) (T:=N2) (k:=5) (lim:=9) (n:=10) (g:=53) (p0:=2) (lk:=ah 9) aH N2_ok (bn 9 _ _) nmMu nm_roundOk h
noncomputable def N3:Tab:=⟨addP (addT (addP noT 50 labP) 51 cutP) 49 tpP,noL,dS (bf 9) 53 5 lk55⟩
theorem N3_ok:TabOk3 Tryd.prog N3:=⟨aQ (b8 (aQ aL lab_ok) mh) tp_ok,aM,bT (au 9) lk55_ok⟩
theorem may_tree(s:List UInt8)(R:V→Prop):runW Tryd.prog N3 9 10 36 [.str s] R=
  (
 bif decide ((↑s.length:Int)>253)then R (.bool false)else Fits 5 [V.yield 4,.ptr 2 0] [.row [.bool false] 4 1,.row [.bool false] 4 1,.row [.str s] 9
 1,Blk.defd,nmL LoopState.ready none] [some (V.yield 4),some (.ptr 2 0)] [.row [.bool false] 4 1,.row [.bool false] 4 1,.row [.str s] 9 1,Blk.defd,
 Blk.loop LoopState.ready none 23 ((((Tr.lf.nd (some (.str s)) Tr.lf).nd (some (.ptr 1 0)) (Tr.lf.nd (some (V.func (Fn.func 53) [] [.ptr 2 0])) Tr.lf)).nd none
 ((Tr.lf.nd (some (.bool false)) Tr.lf).nd none Tr.lf)).nd (some (.str s)) (((Tr.lf.nd (some (.int IntKind.i64 (↑s.length:Int))) Tr.lf).nd none Tr.lf).nd (some (.ptr
 0 0)) ((Tr.lf.nd (some (.str s)) Tr.lf).nd none Tr.lf))) {toList:=[12]} nmAs nmBd 3]∧bif nmPre {d:=false,s:=s}then bif nmO s then ∀(s_1:List UInt8),R
 (.bool !nmD s)else ∀(e:Bool) (s:List UInt8),R (.bool false)else False):=by kernel_rfl
def mayN(s:List UInt8):Bool:=decide (s.length≤253)&&(nmO s&&!nmD s)
def mayP:List V→Option V
 |[.str s]=>some (.bool (mayN s))
 |_=>none
theorem nm_enter(s:List UInt8)(T2:Tr)(h2:T2.get 2=some (.ptr 0 0))(h3:T2.get 3=some (.ptr 1 0)):
  Fits 5 [.yield 4,.ptr 2 0] [.row [.bool false] 4 1,.row [.bool false] 4 1,.row [.str s] 9 1,.defd,nmL .ready none] [some (.yield 4),some (.ptr 2 0)]
   [.row [.bool false] 4 1,.row [.bool false] 4 1,.row [.str s] 9 1,.defd,.loop .ready none 23 T2 {toList:=[12]} nmAs nmBd 3]:=by
 have hL:nmL .ready none=.loop .ready none 23 (io .lf nmT) {toList:=[12]} nmAs nmBd 3:=by kernel_rfl
 refine⟨[0,1,2,3,4],[.yield 4,.ptr 2 0],rfl,rfl,FitsM.of ?_,by decide,fun i hi=>by
  match i,hi with
  |0,_|1,_|2,_|3,_|4,_=>rfl⟩
 refine⟨.inr ⟨_,.inl rfl,rfl⟩,.inr ⟨_,.inl rfl,rfl⟩,.inr ⟨_,.inl rfl,rfl⟩,.inr ⟨_,.inl rfl,rfl⟩,.inr ⟨_,?_,rfl⟩,trivial⟩;rw[hL];refine .inr ⟨_,_,_,_,_,_,_,_,_,_,rfl,rfl,rfl,FitT.of fun t v hm=>?_⟩;simp only[nmT,List.mem_cons,Prod.mk.injEq,List.not_mem_nil,or_false]at hm;rcases hm with⟨rfl,rfl⟩|⟨rfl,rfl⟩
 ·exact⟨_,rfl,h2⟩
 ·exact⟨_,rfl,h3⟩
theorem lJ(args:List V)(v:V)(h:mayP args=some v):FnSat Tryd.prog 36 args [] (Is (v,[])):=by
 unfold mayP at h;split at h
 ·rename_i s;cases h;refine aJ (lim:=9) (n:=10) aH N3_ok rfl rfl ?_;rw[may_tree];unfold mayN;refine ab (fun h=>?_) (fun h=>?_)
  ·have h:=of_decide_eq_true h;rw[decide_eq_false (show ¬s.length≤253 by omega)];rfl
  ·have h:=of_decide_eq_false h;rw[decide_eq_true (show s.length≤253 by omega),Bool.true_and];refine⟨nm_enter s _ rfl rfl,ae (decide_eq_true (show s.length≤1099511627776 by omega)) ?_⟩;refine ab (fun h=>?_) (fun h=>?_)
   ·intro _;rw[h];rfl
   ·intro _ _;rw[h];rfl
 ·cases h
noncomputable def N4:Tab:=⟨addP (addP noT 49 tpP) 36 mayP,noL,bf 9⟩
theorem N4_ok:TabOk3 Tryd.prog N4:=⟨aQ (aQ aL tp_ok) lJ,aM,au 9⟩
def patN(s:List UInt8):Bool:=mayN (eC s)
def patP:List V→Option V
 |[.str s]=>some (.bool (patN s))
 |_=>none
theorem pat_tree(s:List UInt8)(R:V→Prop):runW Tryd.prog N4 9 10 35 [.str s] R=
  (
 R (.bool (mayN (eC s)))):=by kernel_rfl
theorem pat_ok(args:List V)(v:V)(h:patP args=some v):FnSat Tryd.prog 35 args [] (Is (v,[])):=by
 unfold patP at h;split at h
 ·rename_i s;cases h;refine aJ (lim:=9) (n:=10) aH N4_ok rfl rfl ?_;rw[pat_tree];rfl
 ·cases h
end Go.Proofs.YtebkeppoicllmaaDoor
