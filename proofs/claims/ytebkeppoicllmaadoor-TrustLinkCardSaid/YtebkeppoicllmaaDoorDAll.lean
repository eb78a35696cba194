/- All the things of a text: what they come to. -/
import Derived.Test.YtebkeppoicllmaaDoorDGet2
namespace Go.Proofs.YtebkeppoicllmaaDoor
open Go.IntKind (u8 u16 u32 u64 i8 i16 i32 i64)
open Go Go.Vm Go.RowKit
set_option linter.unusedSectionVars false
variable [Φ:Frz]
set_option linter.unusedVariables false
set_option maxRecDepth 100000
def ej:Code→Option (Array Tmp×Code×Code)
 |.seq a b=>(ej a).or (ej b)
 |.cond _ a b=>(ej a).or (ej b)
 |.block _ c=>ej c
 |.loop c=>ej c
 |.rangeFunc _ ps asg bd=>some (ps,asg,bd)
 |_=>none
noncomputable def alRg:Array Tmp×Code×Code:=(ej (fi Tryd.prog 43)).getD (#[],.skip,.skip)
noncomputable def alPs:Array Tmp:=alRg.1
noncomputable def alAs:Code:=alRg.2.1
noncomputable def alBd:Code:=alRg.2.2
def rgLoopA(P:Program)(g:Nat)(s:LoopState)(p:Option Code)(T:List (Nat×V))(dn:Nat):Blk:=match ej (fi P g)with
 |some (ps,asg,bd)=>.loop s p (szOf P g) (io .lf T) ps asg bd dn
 |none=>.dead
def alT:List (Nat×V):=[(2,.ptr 0 0),(3,.ptr 1 0),(4,.ptr 2 0)]
noncomputable def alL(s:LoopState)(p:Option Code):Blk:=rgLoopA Tryd.prog 43 s p alT 4
noncomputable def alM(r0:V)(e:Int)(sl:V)(s:List UInt8)(l:LoopState)(p:Option Code)(rest:St):St:=
 [.row [r0] 77 1,.row [.int .i64 e] 42 1,.row [sl] 77 1,.row [.str s] 9 1,.defd,alL l p]++rest
noncomputable def TA:Tab:=⟨addP noT 57 getF2,noL,bf 9⟩
theorem TA_ok:TabOk3 Tryd.prog TA:=⟨aQ aL get2_ok,aM,au 9⟩
theorem al_round0(s:List UInt8)(R:Exit→List (Option V)→St→Prop):ao Tryd.prog TA 9 10 (ah 9) 62 2 [0,1] [.yield 5,.ptr 3 0] (alM .nilSlice 0 .nilSlice s .ready none []) R=
  (
 bif !s==[]then bif bi s==0 then bif bi s !=0 then R .ret [some (V.yield 5),some (.ptr 3 0)] [.row [.nilSlice] 77 1,.row [.int i64
 (bi s)] 42 1,.row [.nilSlice] 77 1,.row [.str s] 9 1,Blk.defd,alL LoopState.done (some Code.ret),.row [.int u8 (aK s),.str (ad s)] 74
 2,.row [.int u8 (aK s),.str (ad s)] 74 2]else bif bi s !=0 then R .ret [some (V.yield 5),some (.ptr 3 0)] [.row [.nilSlice] 77 1,
 .row [.int i64 0] 42 1,.row [.slice 9 0 1 false 0 0] 77 1,.row [.str s] 9 1,Blk.defd,alL LoopState.ready none,.row [.int u8 (aK
 s),.str (ad s)] 74 2,.row [.int u8 (aK s),.str (ad s)] 74 2,.row [.int u8 (aK s),.str (ad s)] 74 2,.row [.int
 u8 (aK s),.str (ad s)] 74 2]else R .normal [some (V.yield 5),some (.ptr 3 0)] [.row [.nilSlice] 77 1,.row [.int i64 0] 42 1,
 .row [.slice 9 0 1 false 0 0] 77 1,.row [.str (cH s)] 9 1,Blk.defd,alL LoopState.ready none,.row [.int u8 (aK s),.str (ad s)] 74 2,
 .row [.int u8 (aK s),.str (ad s)] 74 2,.row [.int u8 (aK s),.str (ad s)] 74 2,.row [.int u8 (aK s),.str (ad
 s)] 74 2]else bif bi s !=0 then R .ret [some (V.yield 5),some (.ptr 3 0)] [.row [.nilSlice] 77 1,.row [.int i64 (bi s)] 42 1,.row
 [.nilSlice] 77 1,.row [.str s] 9 1,Blk.defd,alL LoopState.done (some Code.ret),.row [.int u8 (aK s),.str (ad s)] 74 2,.row [.int
 u8 (aK s),.str (ad s)] 74 2]else bif bi s !=0 then R .ret [some (V.yield 5),some (.ptr 3 0)] [.row [.nilSlice] 77 1,.row [.int
 i64 0] 42 1,.row [.slice 9 0 1 false 0 0] 77 1,.row [.str s] 9 1,Blk.defd,alL LoopState.ready none,.row [.int u8 (aK s),.str (ad
 s)] 74 2,.row [.int u8 (aK s),.str (ad s)] 74 2,.row [.int u8 (aK s),.str (ad s)] 74 2,.row [.int u8 (aK s),
 .str (ad s)] 74 2]else R .normal [some (V.yield 5),some (.ptr 3 0)] [.row [.nilSlice] 77 1,.row [.int i64 0] 42 1,.row [.slice 9 0 1
 false 0 0] 77 1,.row [.str (cH s)] 9 1,Blk.defd,alL LoopState.ready none,.row [.int u8 (aK s),.str (ad s)] 74 2,.row [.int u8
 (aK s),.str (ad s)] 74 2,.row [.int u8 (aK s),.str (ad s)] 74 2,.row [.int u8 (aK s),.str (ad s)] 74 2]else R
 (.exit 0) [some (V.yield 5),some (.ptr 3 0)] [.row [.nilSlice] 77 1,.row [.int i64 0] 42 1,.row [.nilSlice] 77 1,.row [.str s] 9 1,
 Blk.defd,alL LoopState.ready none]):=by kernel_rfl
theorem al_round1(s:List UInt8)(o:List V)(n:Nat)(R:Exit→List (Option V)→St→Prop):ao Tryd.prog TA 9 10 (ah 9) 62 2 [0,1] [.yield 5,.ptr 3 0] (alM .nilSlice 0 (.slice 6 0 n false 0 0) s .ready none [.row o 74 2]) R=
  (
 bif !s==[]then bif bi s==0 then bif (↑n:Int)==64 then R .ret [some (V.yield 5),some (.ptr 3 0)] [.row [.nilSlice] 77 1,.row [.int i64
 40] 42 1,.row [.slice 6 0 n false 0 0] 77 1,.row [.str s] 9 1,Blk.defd,alL LoopState.done (some Code.ret),.row o 74 2,.row [.int u8 (aK
 s),.str (ad s)] 74 2,.row [.int u8 (aK s),.str (ad s)] 74 2]else bif bi s !=0 then R .ret [some (V.yield 5),some (.ptr 3 0)] [.row
 [.nilSlice] 77 1,.row [.int i64 (bi s)] 42 1,.row [.slice 6 0 n false 0 0] 77 1,.row [.str s] 9 1,Blk.defd,alL LoopState.done (some
 Code.ret),.row o 74 2,.row [.int u8 (aK s),.str (ad s)] 74 2,.row [.int u8 (aK s),.str (ad s)] 74 2]else bif o.length.beq
 (n*2)then bif (n+1).ble 9223372036854775807&&((n+1)*24).ble 140737488355328 then bif bi s !=0 then R .ret [some (V.yield 5),some (.ptr 3 0)] [.row
 [.nilSlice] 77 1,.row [.int i64 0] 42 1,.row [.slice 10 0 (n+1) false 0 0] 77 1,.row [.str s] 9 1,Blk.defd,alL LoopState.ready none,.dead,
 .row [.int u8 (aK s),.str (ad s)] 74 2,.row [.int u8 (aK s),.str (ad s)] 74 2,.row [.int u8 (aK s),.str (ad
 s)] 74 2,.row (o++[V.int u8 (aK s),V.str (ad s)]) 74 2]else R .normal [some (V.yield 5),some (.ptr 3 0)] [.row [.nilSlice] 77 1,.row
 [.int i64 0] 42 1,.row [.slice 10 0 (n+1) false 0 0] 77 1,.row [.str (cH s)] 9 1,Blk.defd,alL LoopState.ready none,.dead,.row [.int
 u8 (aK s),.str (ad s)] 74 2,.row [.int u8 (aK s),.str (ad s)] 74 2,.row [.int u8 (aK s),.str (ad s)] 74 2,
 .row (o++[V.int u8 (aK s),V.str (ad s)]) 74 2]else False else False else bif bi s !=0 then R .ret [some (V.yield 5),some (.ptr 3 0)]
 [.row [.nilSlice] 77 1,.row [.int i64 (bi s)] 42 1,.row [.slice 6 0 n false 0 0] 77 1,.row [.str s] 9 1,Blk.defd,alL LoopState.done (some
 Code.ret),.row o 74 2,.row [.int u8 (aK s),.str (ad s)] 74 2,.row [.int u8 (aK s),.str (ad s)] 74 2]else bif o.length.beq
 (n*2)then bif (n+1).ble 9223372036854775807&&((n+1)*24).ble 140737488355328 then bif bi s !=0 then R .ret [some (V.yield 5),some (.ptr 3 0)] [.row
 [.nilSlice] 77 1,.row [.int i64 0] 42 1,.row [.slice 10 0 (n+1) false 0 0] 77 1,.row [.str s] 9 1,Blk.defd,alL LoopState.ready none,.dead,
 .row [.int u8 (aK s),.str (ad s)] 74 2,.row [.int u8 (aK s),.str (ad s)] 74 2,.row [.int u8 (aK s),.str (ad
 s)] 74 2,.row (o++[V.int u8 (aK s),V.str (ad s)]) 74 2]else R .normal [some (V.yield 5),some (.ptr 3 0)] [.row [.nilSlice] 77 1,.row
 [.int i64 0] 42 1,.row [.slice 10 0 (n+1) false 0 0] 77 1,.row [.str (cH s)] 9 1,Blk.defd,alL LoopState.ready none,.dead,.row [.int
 u8 (aK s),.str (ad s)] 74 2,.row [.int u8 (aK s),.str (ad s)] 74 2,.row [.int u8 (aK s),.str (ad s)] 74 2,
 .row (o++[V.int u8 (aK s),V.str (ad s)]) 74 2]else False else False else R (.exit 0) [some (V.yield 5),some (.ptr 3 0)] [.row [.nilSlice]
 77 1,.row [.int i64 0] 42 1,.row [.slice 6 0 n false 0 0] 77 1,.row [.str s] 9 1,Blk.defd,alL LoopState.ready none,.row o 74 2]):=by kernel_rfl
abbrev IT:=Int×List UInt8
def aq:List IT→List V
 |[]=>[]
 |x::r=>.int .u8 x.1::.str x.2::aq r
theorem iY:∀l:List IT,(aq l).length=l.length*2
 |[]=>rfl
 |x::r=>by simp only[aq,List.length_cons,iY r];omega
theorem mo:∀(l:List IT) (x:IT),aq l++[.int .u8 x.1,.str x.2]=aq (l++[x])
 |[],x=>rfl
 |y::r,x=>by simp only[aq,List.cons_append,mo r x]
theorem iX(σ:List Nat):∀l:List IT,renL σ (aq l)=some (aq l)
 |[]=>rfl
 |x::r=>by simp only[aq,renL,renV,iX σ r]
def alF:Nat→List UInt8→List IT→List IT×Int
 |0,_,acc=>(acc,0)
 |k+1,s,acc=>if s=[]then(acc,0)else if bi s=0 then(if acc.length=64 then([],40)else alF k (cH s) (acc++[(aK s,ad s)]))else([],bi s)
structure AL where
 s:List UInt8
 acc:List IT
def alSl:List IT→V
 |[]=>.nilSlice
 |h::t=>.slice 6 0 (h::t).length false 0 0
def alRw:List IT→St
 |[]=>[]
 |h::t=>[.row (aq (h::t)) 74 2]
def alV(_:AL):List V:=[.yield 5,.ptr 3 0]
noncomputable def alJ(x:AL):St:=alM .nilSlice 0 (alSl x.acc) x.s .ready none (alRw x.acc)
def nQ(x:AL):Bool:=decide (x.acc.length≤64)
def alMu(x:AL):Nat:=x.s.length
def alEnd0(x:AL):Prop:=alF x.s.length x.s x.acc=([],0)
def alEnd1(x:AL)(o:List V)(n:Nat):Prop:=∃h t,o=aq (h::t)∧n=(h::t).length∧alF x.s.length x.s x.acc=(h::t,0)
def alErr(x:AL)(e:Int):Prop:=e≠0∧alF x.s.length x.s x.acc=([],e)
noncomputable def alOut:Asks AL:=fun x K=>
 (alEnd0 x→K (.exit 0) [.yield 5,.ptr 3 0] (alM .nilSlice 0 .nilSlice [] .ready none []))∧
 (∀o n,alEnd1 x o n→K (.exit 0) [.yield 5,.ptr 3 0] (alM .nilSlice 0 (.slice 6 0 n false 0 0) [] .ready none [.row o 74 2]))∧
 (∀e,alErr x e→K .ret [.yield 5,.ptr 3 0] [.row [.nilSlice] 77 1,.row [.int .i64 e] 42 1,.dead,.dead,.defd,alL .done (some .ret)])
theorem o7(σ:List Nat)(h0:σ[0]?=some 0)(h1:σ[1]?=some 1)(h2:σ[2]?=some 2)(h4:σ[4]?=some 4)(s:LoopState)(p:Option Code):FitB σ (alL s p) (alL s p):=by
 unfold alL rgLoopA;split
 ·refine .inr ⟨_,_,_,_,_,_,_,_,_,_,rfl,rfl,h4,FitT.of (fun t v hm=>?_)⟩;simp only[alT,List.mem_cons,Prod.mk.injEq,List.not_mem_nil,or_false]at hm;rcases hm with⟨rfl,rfl⟩|⟨rfl,rfl⟩|⟨rfl,rfl⟩
  ·exact⟨.ptr 0 0,by simp[renV,h0],rfl⟩
  ·exact⟨.ptr 1 0,by simp[renV,h1],rfl⟩
  ·exact⟨.ptr 2 0,by simp[renV,h2],rfl⟩
 ·exact .inl rfl
theorem jC{c:List Nat}:∀i,i<6→([0,1,2,3,4,5]++c)[i]?=some i:=by
 intro i hi
 match i,hi with
 |0,_|1,_|2,_|3,_|4,_|5,_=>rfl
theorem mA(e:Int)(s:List UInt8)(l:LoopState)(p:Option Code)(g:St)(hg:g.length<5)(acc:List IT)(L:Nat)(hL:L=acc.length)(v6:V)(hv:v6=.slice (6+g.length) 0 L false 0 0)(rest:St)(hr:rest=g++[.row (aq acc) 74 2]):
  Fits 6 [.yield 5,.ptr 3 0] (alM .nilSlice e (.slice 6 0 acc.length false 0 0) s l p [.row (aq acc) 74 2]) [some (.yield 5),some (.ptr 3 0)] (alM .nilSlice e v6 s l p rest):=by
 subst hL hv hr;refine⟨[0,1,2,3,4,5]++[6+g.length],[.yield 5,.ptr 3 0],rfl,rfl,FitsM.of ?_,?_,jC⟩
 ·refine⟨.inr ⟨_,.inl rfl,rfl⟩,.inr ⟨_,.inl rfl,rfl⟩,.inr ⟨_,.inl rfl,rfl⟩,.inr ⟨_,.inl rfl,rfl⟩,.inr ⟨_,.inl rfl,rfl⟩,.inr ⟨_,o7 _ rfl rfl rfl rfl l p,rfl⟩,.inr ⟨.row (aq acc) 74 2,.inl (by simp only[renB,iX]),?_⟩,trivial⟩;unfold alM;rw[List.getElem?_append_right (by simp)];simp
 ·simp;omega
theorem al_fits0(e:Int)(s:List UInt8)(l:LoopState)(p:Option Code):Fits 6 [.yield 5,.ptr 3 0] (alM .nilSlice e .nilSlice s l p []) [some (.yield 5),some (.ptr 3 0)] (alM .nilSlice e .nilSlice s l p []):=by
 refine⟨[0,1,2,3,4,5]++[],[.yield 5,.ptr 3 0],rfl,rfl,FitsM.of ?_,by decide,jC⟩;exact⟨.inr ⟨_,.inl rfl,rfl⟩,.inr ⟨_,.inl rfl,rfl⟩,.inr ⟨_,.inl rfl,rfl⟩,.inr ⟨_,.inl rfl,rfl⟩,.inr ⟨_,.inl rfl,rfl⟩,.inr ⟨_,o7 _ rfl rfl rfl rfl l p,rfl⟩,trivial⟩
theorem mz(e:Int)(v6:V)(s:List UInt8)(rest:St):
  Fits 6 [.yield 5,.ptr 3 0] [.row [.nilSlice] 77 1,.row [.int .i64 e] 42 1,.dead,.dead,.defd,alL .done (some .ret)] [some (.yield 5),some (.ptr 3 0)] (alM .nilSlice e v6 s .done (some .ret) rest):=by
 refine⟨[0,1,2,3,4,5]++[],[.yield 5,.ptr 3 0],rfl,rfl,FitsM.of ?_,by decide,jC⟩;exact⟨.inr ⟨_,.inl rfl,rfl⟩,.inr ⟨_,.inl rfl,rfl⟩,.inl rfl,.inl rfl,.inr ⟨_,.inl rfl,rfl⟩,.inr ⟨_,o7 _ rfl rfl rfl rfl _ _,rfl⟩,trivial⟩
theorem gH{s:List UInt8}(h:s≠[]):(cH s).length<s.length:=by
 cases s with
 |nil=>exact absurd rfl h
 |cons b r=>
  unfold cH;split
  ·simp;omega
  ·simp
theorem mB:∀(k:Nat) (s:List UInt8) (acc:List IT),s.length≤k→alF k s acc=alF s.length s acc
 |0,s,acc,h=>by
  have:s.length=0:=by omega
  rw[this]
 |k+1,s,acc,h=>by
  cases s with
  |nil=>simp[alF]
  |cons b r=>
   have hlt:=gH (s:=b::r) (by simp);simp only[List.length_cons,alF];split
   ·rfl
   ·split
    ·split
     ·rfl
     ·simp only[List.length_cons]at hlt h;rw[mB k _ _ (by omega),mB r.length _ _ (by omega)]
    ·rfl
 termination_by k=>k
theorem alF_step{s:List UInt8}(hs:s≠[])(h0:bi s=0){acc:List IT}(ha:acc.length≠64):alF s.length s acc=alF (cH s).length (cH s) (acc++[(aK s,ad s)]):=by
 have hlt:=gH hs;cases hk:s.length with
 |zero=>rw[hk]at hlt;omega
 |succ k=>
  rw[hk]at hlt;simp only[alF];rw[if_neg hs,if_pos h0,if_neg ha,mB k _ _ (by omega)]
theorem alF_err{s:List UInt8}(hs:s≠[])(h0:bi s≠0)(acc:List IT):alF s.length s acc=([],bi s):=by
 cases s with
 |nil=>exact absurd rfl hs
 |cons b r=>simp only[List.length_cons,alF];rw[if_neg hs,if_neg h0]
theorem alF_full{s:List UInt8}(hs:s≠[])(h0:bi s=0){acc:List IT}(ha:acc.length=64):alF s.length s acc=([],40):=by
 cases s with
 |nil=>exact absurd rfl hs
 |cons b r=>simp only[List.length_cons,alF];rw[if_neg hs,if_pos h0,if_pos ha]
theorem al_round(x:AL)(hx:nQ x=true):ao Tryd.prog TA 9 10 (ah 9) 62 2 [0,1] (alV x) (alJ x) (aR 6 nQ alV alJ alMu alOut x):=by
 obtain⟨s,acc⟩:=x;have p1:acc.length≤64:=of_decide_eq_true hx;have again:s≠[]→bi s=0→acc.length≠64→∀K,alOut ⟨s,acc⟩ K→alOut ⟨cH s,acc++[(aK s,ad s)]⟩ K:=by
  intro hs h0 ha K hK;have hg:=alF_step hs h0 ha;refine⟨fun he=>hK.1 (hg.trans he),fun o n he=>hK.2.1 o n ?_,fun e he=>hK.2.2 e ⟨he.1,hg.trans he.2⟩⟩;obtain⟨h,t,e1,e2,e3⟩:=he;exact⟨h,t,e1,e2,hg.trans e3⟩
 have pre2:acc.length≠64→nQ ⟨cH s,acc++[(aK s,ad s)]⟩=true:=by
  intro h;simp only[nQ,decide_eq_true_eq,List.length_append,List.length_cons,List.length_nil];omega
 cases acc with
 |nil=>
  show ao Tryd.prog TA 9 10 (ah 9) 62 2 [0,1] [.yield 5,.ptr 3 0] (alM .nilSlice 0 .nilSlice s .ready none []) _;rw[al_round0];by_cases hs:s=[]
  ·have e1:(!s==[])=false:=by simp[hs]
   rw[e1,cond_false];subst hs;exact⟨_,_,fun K hK=>hK.1 rfl,al_fits0 0 [] _ _⟩
  ·have e1:(!s==[])=true:=by simp[hs]
   rw[e1,cond_true];by_cases h0:bi s=0
   ·have e2:(bi s==0)=true:=by simp[h0]
    have e3:(bi s !=0)=false:=by simp[h0]
    rw[e2,e3];simp only[cond_true,cond_false];refine⟨⟨cH s,[]++[(aK s,ad s)]⟩,pre2 (by simp),?_,gH hs,again hs h0 (by simp)⟩;exact mA 0 (cH s) _ _ [_,_,_] (by simp) [(aK s,ad s)] 1 rfl _ rfl _ rfl
   ·have e2:(bi s==0)=false:=by simp[h0]
    have e3:(bi s !=0)=true:=by simp[h0]
    rw[e2,e3];simp only[cond_true,cond_false];exact⟨_,_,fun K hK=>hK.2.2 _ ⟨h0,alF_err hs h0 []⟩,mz _ _ _ _⟩
 |cons h t=>
  show ao Tryd.prog TA 9 10 (ah 9) 62 2 [0,1] [.yield 5,.ptr 3 0] (alM .nilSlice 0 (.slice 6 0 (h::t).length false 0 0) s .ready none [.row (aq (h::t)) 74 2]) _;rw[al_round1];by_cases hs:s=[]
  ·have e1:(!s==[])=false:=by simp[hs]
   rw[e1,cond_false];subst hs;exact⟨_,_,fun K hK=>hK.2.1 _ _ ⟨h,t,rfl,rfl,rfl⟩,mA 0 [] _ _ [] (by simp) (h::t) _ rfl _ rfl _ rfl⟩
  ·have e1:(!s==[])=true:=by simp[hs]
   rw[e1,cond_true];by_cases h0:bi s=0
   ·have e2:(bi s==0)=true:=by simp[h0]
    have e3:(bi s !=0)=false:=by simp[h0]
    rw[e2,e3];simp only[cond_true,cond_false];by_cases ha:(h::t).length=64
    ·have e4:(((h::t).length:Int)==64)=true:=by rw[ha];rfl
     rw[e4,cond_true];exact⟨_,_,fun K hK=>hK.2.2 40 ⟨by omega,alF_full hs h0 ha⟩,mz _ _ _ _⟩
    ·have e4:(((h::t).length:Int)==64)=false:=by
      cases hb:(((h::t).length:Int)==64)with
      |false=>rfl
      |true=>exact absurd (by have:=beq_iff_eq.1 hb;omega) ha
     rw[e4,cond_false];have e5:(aq (h::t)).length.beq ((h::t).length*2)=true:=by rw[iY];exact Nat.beq_refl _
     have e6:(((h::t).length+1).ble 9223372036854775807&&(((h::t).length+1)*24).ble 140737488355328)=true:=by
      rw[Bool.and_eq_true];exact⟨Nat.ble_eq_true_of_le (by omega),Nat.ble_eq_true_of_le (by omega)⟩
     rw[e5,e6,cond_true,cond_true];have e7:aq (h::t)++[V.int .u8 (aK s),V.str (ad s)]=aq (h::(t++[(aK s,ad s)])):=mo (h::t) (aK s,ad s);rw[e7];refine⟨⟨cH s,(h::t)++[(aK s,ad s)]⟩,pre2 ha,?_,gH hs,again hs h0 ha⟩;exact mA 0 (cH s) _ _ [_,_,_,_] (by simp) (h::(t++[(aK s,ad s)])) ((h::t).length+1) (by simp) _ rfl _ rfl
   ·have e2:(bi s==0)=false:=by simp[h0]
    have e3:(bi s !=0)=true:=by simp[h0]
    rw[e2,e3];simp only[cond_true,cond_false];exact⟨_,_,fun K hK=>hK.2.2 _ ⟨h0,alF_err hs h0 (h::t)⟩,mz _ _ _ _⟩
def alDec:List (Option V)→St→Option AL
 |[some (.yield 5),some (.ptr 3 0)],(.row [.nilSlice] _ _)::(.row [.int .i64 0] _ _)::(.row [.nilSlice] _ _)::(.row [.str s] _ _)::_=>some ⟨s,[]⟩
 |_,_=>none
noncomputable def lk48:Nat→Trans→Trans:=bA 2 (cx 6 (szOf Tryd.prog 62) [0,1] alDec nQ alV alJ alOut) (ah 9)
theorem al_loop{f:Fr}{st:St}{Q:Exit→Fr→St→Prop}(h:cx 6 (szOf Tryd.prog 62) [0,1] alDec nQ alV alJ alOut f st Q):CodeSatW Tryd.prog none 6 (.loop (dJ Tryd.prog 62 2)) f st Q:=
 bN (P:=Tryd.prog) (T:=TA) (k:=6) (lim:=9) (n:=10) (g:=62) (p0:=2) (lk:=ah 9) aH TA_ok (bn 9 _ _) alMu al_round h
theorem lk48_ok:aC Tryd.prog 6 lk48 62:=by
 unfold lk48;exact cm (bj 9 6 62) (by kernel_rfl) fun f st Q h=>al_loop h
noncomputable def TB:Tab:=⟨noT,noL,dS (bf 9) 62 6 lk48⟩
theorem TB_ok:TabOk3 Tryd.prog TB:=⟨aL,aM,bT (au 9) lk48_ok⟩
theorem all_tree(s:List UInt8)(R:V→St→Prop):runM Tryd.prog TB 9 10 43 [.str s] R=
  (
 Fits 6 [V.yield 5,.ptr 3 0] [.row [.nilSlice] 77 1,.row [.int i64 0] 42 1,.row [.nilSlice] 77 1,.row [.str s] 9 1,Blk.defd,alL
 LoopState.ready none] [some (V.yield 5),some (.ptr 3 0)] [.row [.nilSlice] 77 1,.row [.int i64 0] 42 1,.row [.nilSlice] 77 1,.row [.str s] 9
 1,Blk.defd,Blk.loop LoopState.ready none 26 ((((Tr.lf.nd (some (.str s)) Tr.lf).nd (some (.ptr 1 0)) Tr.lf).nd none Tr.lf).nd (some (.str s)) (((Tr.lf.nd (some
 (V.func (Fn.func 62) [] [.ptr 3 0])) Tr.lf).nd (some (.ptr 2 0)) Tr.lf).nd (some (.ptr 0 0)) Tr.lf)) {toList:=[9,10]} alAs alBd 4]∧(alEnd0 {s:=s,acc:=[]}
 →R (.tuple [.nilSlice,.int i64 0]) [.row [.nilSlice] 77 1,.row [.int i64 0] 42 1,.row [.nilSlice] 77 1,.row [.str []] 9 1,
 .dead,.dead])∧(∀(o:List V) (n:Nat),alEnd1 {s:=s,acc:=[]} o n→R (.tuple [.slice 6 0 n false 0 0,.int i64 0]) [.row [.slice 6 0 n
 false 0 0] 77 1,.row [.int i64 0] 42 1,.row [.slice 6 0 n false 0 0] 77 1,.row [.str []] 9 1,.dead,.dead,.row o 74 2])∧∀(e:Int),
 alErr {s:=s,acc:=[]} e→R (.tuple [.nilSlice,.int i64 e]) [.row [.nilSlice] 77 1,.row [.int i64 e] 42 1,.dead,.dead,
 .dead,.dead]):=by kernel_rfl
theorem al_enter(s:List UInt8)(DT2:Tr)(h2:DT2.get 2=some (.ptr 0 0))(h3:DT2.get 3=some (.ptr 1 0))(h4:DT2.get 4=some (.ptr 2 0)):
  Fits 6 [.yield 5,.ptr 3 0] (alM .nilSlice 0 .nilSlice s .ready none []) [some (.yield 5),some (.ptr 3 0)]
   [.row [.nilSlice] 77 1,.row [.int .i64 0] 42 1,.row [.nilSlice] 77 1,.row [.str s] 9 1,.defd,.loop .ready none 26 DT2 alPs alAs alBd 4]:=by
 have hL:alL .ready none=.loop .ready none 26 (io .lf alT) alPs alAs alBd 4:=by kernel_rfl
 refine⟨[0,1,2,3,4,5]++[],[.yield 5,.ptr 3 0],rfl,rfl,FitsM.of ?_,by decide,jC⟩;refine⟨.inr ⟨_,.inl rfl,rfl⟩,.inr ⟨_,.inl rfl,rfl⟩,.inr ⟨_,.inl rfl,rfl⟩,.inr ⟨_,.inl rfl,rfl⟩,.inr ⟨_,.inl rfl,rfl⟩,.inr ⟨_,?_,rfl⟩,trivial⟩;rw[hL];refine .inr ⟨_,_,_,_,_,_,_,_,_,_,rfl,rfl,rfl,FitT.of fun t v hm=>?_⟩;simp only[alT,List.mem_cons,Prod.mk.injEq,List.not_mem_nil,or_false]at hm;rcases hm with⟨rfl,rfl⟩|⟨rfl,rfl⟩|⟨rfl,rfl⟩
 ·exact⟨_,rfl,h2⟩
 ·exact⟨_,rfl,h3⟩
 ·exact⟨_,rfl,h4⟩
def allI(s:List UInt8):List IT:=(alF s.length s []).1
def allE(s:List UInt8):Int:=(alF s.length s []).2
def outA(s:List UInt8):V×St:=match allI s with
 |[]=>(.tuple [.nilSlice,.int .i64 (allE s)],[])
 |h::t=>(.tuple [.slice 0 0 (h::t).length false 0 0,.int .i64 (allE s)],[.row (aq (h::t)) 74 2])
theorem all_sat(s:List UInt8):FnSat Tryd.prog 43 [.str s] [] (Is (outA s)):=by
 refine FnSat.fits (gX (lim:=9) (n:=10) aH TB_ok ?_);rw[all_tree];have nilRes:∀(e:Int) (st:St),allI s=[]→allE s=e→Fits 0 [(outA s).1] (outA s).2 [some (.tuple [.nilSlice,.int .i64 e])] st:=by
  intro e st h1 h2;have e1:outA s=(.tuple [.nilSlice,.int .i64 e],[]):=by unfold outA;rw[h1,h2]
  rw[e1];exact⟨[],[.tuple [.nilSlice,.int .i64 e]],rfl,rfl,FitsM.of trivial,by simp,fun i hi=>by omega⟩
 refine⟨al_enter s _ rfl rfl rfl,?_,?_,?_⟩
 ·intro h;have h:alF s.length s []=([],0):=h;exact nilRes 0 _ (by unfold allI;rw[h]) (by unfold allE;rw[h])
 ·rintro o n ⟨h0,t,rfl,rfl,h⟩;have h:alF s.length s []=(h0::t,0):=h;have h1:allI s=h0::t:=by unfold allI;rw[h]
  have h2:allE s=0:=by unfold allE;rw[h]
  have e1:outA s=(.tuple [.slice 0 0 (h0::t).length false 0 0,.int .i64 0],[.row (aq (h0::t)) 74 2]):=by unfold outA;rw[h1,h2]
  show Fits 0 [(outA s).1] (outA s).2 _ _;rw[e1];exact⟨[6],[.tuple [.slice 6 0 (h0::t).length false 0 0,.int .i64 0]],rfl,rfl,FitsM.of ⟨.inr ⟨.row (aq (h0::t)) 74 2,.inl (by simp only[renB,iX]),rfl⟩,trivial⟩,by simp,fun i hi=>by omega⟩
 ·rintro e ⟨_,h⟩;have h:alF s.length s []=([],e):=h;exact nilRes e _ (by unfold allI;rw[h]) (by unfold allE;rw[h])
def allG(AE:List UInt8→Int)(AN:List UInt8→Nat)(AC:List UInt8→List V):List V→Option (List (Bool×(V×St)))
 |[.str s]=>some [(Nat.beq (AN s) 0,(.tuple [.nilSlice,.int .i64 (AE s)],[])),(true,(.tuple [.slice 0 0 (AN s) false 0 0,.int .i64 (AE s)],[.row (AC s) 74 2]))]
 |_=>none
def allN(s:List UInt8):Nat:=(allI s).length
def allC(s:List UInt8):List V:=aq (allI s)
theorem allG_ok(args:List V)(l:List (Bool×(V×St)))(o:V×St)(h:allG allE allN allC args=some l)(ho:aP l=some o):FnSat Tryd.prog 43 args [] (Is o):=by
 unfold allG at h;split at h
 ·rename_i s;cases h;have:o=outA s:=by
   unfold outA;unfold allN allC at ho;cases hI:allI s with
   |nil=>
    rw[hI]at ho;have e:Nat.beq ([]:List IT).length 0=true:=rfl;simp only[aP,e,cond_true,Option.some.injEq]at ho;exact ho.symm
   |cons a t=>
    rw[hI]at ho;have e:Nat.beq (a::t).length 0=false:=rfl;simp only[aP,e,cond_true,cond_false,Option.some.injEq]at ho;exact ho.symm
  rw[this];exact all_sat s
 ·cases h
end Go.Proofs.YtebkeppoicllmaaDoor
