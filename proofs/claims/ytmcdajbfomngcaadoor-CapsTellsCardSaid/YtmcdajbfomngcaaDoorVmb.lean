/- The virtual machine of this work, continued: regions that draw, ranges, functions whole. -/
import Derived.Test.YtmcdajbfomngcaaDoorVma
namespace Go.Vm
variable [G:Glob] [Φ:Frz]
set_option linter.unusedSectionVars false
set_option linter.unusedVariables false
open Go.RowKit
structure Rec where
 dst:Option Tmp
 v:V
 anc:Nat
 blks:List Blk
def hole:MB:=⟨0,0,0,true⟩
def Blk.keep:Blk→Blk
 |.ro true cs=>.ro true cs
 |.row cs t sz=>.row cs t sz
 |.mpu=>.mpu
 |.mp cs=>.mpu
 |_=>.dead
def lenR:List Rec→Nat
 |[]=>0
 |r::s=>r.blks.length+lenR s
def memR(anc:Nat):Nat→List Rec→St
 |_,[]=>[]
 |k,r::s=>(bif Nat.testBit anc k then r.blks.map Blk.toRo else r.blks.map fun _=>Blk.dead)++memR anc (k+1) s
def tmpR(anc t:Nat):Nat→List Rec→Option V
 |_,[]=>none
 |k,r::s=>match r.dst with
  |some d=>bif Nat.beq d t then(bif Nat.testBit anc k then some r.v else none)else tmpR anc t (k+1) s
  |none=>tmpR anc t (k+1) s
def ancOf(recs:List Rec):List Edge→Nat
 |[]=>0
 |e::r=>bif Region.binds .any e then((1<<<e.on)|||((recs[e.on]?).map (·.anc)).getD 0)|||ancOf recs r else ancOf recs r
def frameR(f:Fr)(dsts:List Tmp)(anc:Nat)(recs:List Rec)(t:Nat):Option V:=
 bif dsts.any (Nat.beq t)then tmpR anc t 0 recs else f.T.get t
def guardT(ops:Array Oper)(T:Nat→Option V)(o:Oper):Option Bool:=
 match o.guard with
 |none=>some true
 |some (j,want)=>match ops[j]? with
  |some oj=>match oj.dst with
   |some d=>match T d with
    |some (.bool b)=>some (b==want)
    |some (.tuple [])=>some false
    |_=>none
   |none=>none
  |none=>none
def opVal(P:Program)(call:Call)(T:Nat→Option V)(mem:St)(op:Op):Option (V×St):=
 match pureOp P mem (ev T) op with
 |some v=>some (v,mem)
 |none=>match effOp P mem (ev T) op with
  |some r=>some r
  |none=>match op with
   |.call {callee:=.value x,args,argTypes}=>match ev T x,evL (ev T) args.toList with
    |some (.func (.func g) fs cs),some as=>bif plainFn P g then doCall call g (fs++as++cs) mem else none
    |some (.yield l),some as=>call (.yld l) as mem
    |_,_=>none
   |_=>none
def capB(ops:Array Oper)(o:Oper):Bool:=match o.op with
 |.buildSlice .. =>ops.toList.any fun p=>match p.op with
  |.call {callee:=.builtin .append,args,argTypes:=_}=>match args.toList with
   |.tmp t::_=>(match o.dst with
    |some d=>Nat.beq d t
    |none=>false)
   |_=>false
  |_=>false
 |_=>false
def stepR(P:Program)(call:Call)(ops:Array Oper)(f:Fr)(st:St)(dsts:List Tmp)(recs:List Rec)(o:Oper):Option Rec:=
 bif o.after.toList.all (fun e=>!Region.binds .any e||Nat.blt e.on recs.length)then
  match guardT ops (frameR f dsts (ancOf recs o.after.toList) recs) o with
  |some false=>some ⟨o.dst,.tuple [],ancOf recs o.after.toList,[]⟩
  |some true=>match opVal P call (frameR f dsts (ancOf recs o.after.toList) recs) (st.map Blk.toRo++memR (ancOf recs o.after.toList) 0 recs) o.op with
   |some (v,s2)=>some ⟨o.dst,capX (capB ops o) v,ancOf recs o.after.toList,(s2.drop (st.length+lenR recs)).map Blk.keep⟩
   |none=>none
  |none=>none
 else none
def evalR(P:Program)(call:Call)(ops:Array Oper)(f:Fr)(st:St)(dsts:List Tmp):List Oper→List Rec→Option (List Rec)
 |[],recs=>some recs
 |o::r,recs=>match stepR P call ops f st dsts recs o with
  |some x=>evalR P call ops f st dsts r (recs++[x])
  |none=>none
def dstsOf(ops:Array Oper):List Tmp:=ops.toList.filterMap (·.dst)
def distinct:List Tmp→Bool
 |[]=>true
 |d::r=>!r.any (Nat.beq d)&&distinct r
def putsR(f:Fr):List Rec→Fr
 |[]=>f
 |r::s=>putsR (f.put r.dst r.v) s
def blksR:List Rec→St
 |[]=>[]
 |r::s=>r.blks++blksR s
def evalDraw(P:Program)(call:Call)(ops:Array Oper)(f:Fr)(st:St):Option (Fr×St):=
 bif (distinct (dstsOf ops)&&(dstsOf ops).all (fun d=>Nat.blt d f.sz))&&noDefer ops then
  match evalR P call ops f st (dstsOf ops) ops.toList []with
  |some recs=>some (putsR f recs,st++blksR recs)
  |none=>none
 else none
section
variable {P:Program} {call:Call} {ro:Option Nat} {f:Fr} {st:St} {B:Nat} {W0 w w':World} {m:List MB}
theorem BlkOk.lower{B':Nat}(hB:B'≤B){e:MB}:∀{b:Blk},BlkOk B m w e b→BlkOk B' m w e b
 |.dead,_=>trivial
 |.ro own cs,⟨h1,h2⟩=>⟨fun h=>Nat.le_trans hB (h1 h),h2⟩
 |.row cs t sz,⟨h1,h2⟩=>⟨Nat.le_trans hB h1,h2⟩
 |.defd,⟨h1,h2⟩=>⟨Nat.le_trans hB h1,h2⟩
 |.mpu,⟨h1,h2⟩=>⟨Nat.le_trans hB h1,h2⟩
 |.mp cs,⟨h1,h2⟩=>⟨Nat.le_trans hB h1,h2⟩
 |.sit s pos,⟨h1,h2⟩=>⟨Nat.le_trans hB h1,h2⟩
 |.loop ..,⟨h1,h2⟩=>⟨Nat.le_trans hB h1,h2⟩
theorem BlkOk.keep{e:MB}:∀{b:Blk},BlkOk B m w e b→BlkOk B m w e b.keep
 |.dead,_=>trivial
 |.ro true cs,h=>h
 |.ro false cs,_=>trivial
 |.row cs t sz,h=>h
 |.defd,_=>trivial
 |.mpu,h=>h
 |.mp cs,⟨h1,es,c,xs,h2,_⟩=>⟨h1,es,c,h2⟩
 |.sit s pos,_=>trivial
 |.loop ..,_=>trivial
theorem keep_base{e:MB}:∀{b:Blk},BlkOk B m w e b→b.keep.live=true→B≤e.blk
 |.dead,_,h=>by simp[Blk.keep,Blk.live]at h
 |.ro true cs,h,_=>h.1 rfl
 |.ro false cs,_,h=>by simp[Blk.keep,Blk.live]at h
 |.row cs t sz,h,_=>h.1
 |.defd,_,h=>by simp[Blk.keep,Blk.live]at h
 |.mpu,h,_=>h.1
 |.mp cs,h,_=>h.1
 |.sit s pos,_,h=>by simp[Blk.keep,Blk.live]at h
 |.loop ..,_,h=>by simp[Blk.keep,Blk.live]at h
theorem BlkOk.toRo{e:MB}:∀{b:Blk},BlkOk B m w e b→∀B',BlkOk B' m w e b.toRo
 |.dead,_,_=>trivial
 |.ro own cs,h,_=>⟨fun h=>(by cases h),h.2⟩
 |.row cs t sz,⟨a1,a2,arr,xs,⟨fz,_,a3⟩,a4,a5,a6⟩,_=>⟨fun h=>(by cases h),arr,t,_,a3,fun i v hv=>by
   obtain⟨x,hx,ha⟩:=realL_get a4 hv;refine⟨x,hx,?_⟩;rw[a2,Nat.zero_add];rw[←a5,List.getElem?_take]at ha;split at ha
   ·simpa using ha
   ·cases ha⟩
 |.defd,_,_=>trivial
 |.mpu,_,_=>trivial
 |.mp cs,_,_=>trivial
 |.sit s pos,_,_=>trivial
 |.loop ..,_,_=>trivial
theorem Rel.ofRo{n:List MB}{s:St}(hg:GOk w.heap.size w)(hl:n.length=s.length)(hb:∀(i:Nat) (b:Blk) (e:MB),s[i]?=some b→n[i]?=some e→BlkOk w.heap.size n w e b∧b.rw=false):Rel w.heap.size w n s w:=
 ⟨hl,Nat.le_refl _,Below.refl _ _,fun i b e h1 h2=>(hb i b e h1 h2).1,fun i j b c d e _ h1 h2 _ _ h3 _=>(by rw[(hb i b d h1 h3).2]at h2;cases h2),hg⟩
theorem toRo_rw(b:Blk):b.toRo.rw=false:=by cases b<;>rfl
theorem lenR_append(a b:List Rec):lenR (a++b)=lenR a+lenR b:=by
 induction a with
 |nil=>simp[lenR]
 |cons r s ih=>simp only[List.cons_append,lenR,ih];omega
theorem lenR_take_succ{R:List Rec}{j:Nat}{r:Rec}(h:R[j]?=some r):lenR (R.take (j+1))=lenR (R.take j)+r.blks.length:=by
 rw[List.take_add_one,h,lenR_append];simp[lenR]
theorem lenR_take_le(R:List Rec){i j:Nat}(h:i≤j):lenR (R.take i)≤lenR (R.take j):=by
 have:R.take j=R.take i++(R.drop i).take (j-i):=by
  rw[←List.take_add];congr 1;omega
 rw[this,lenR_append];omega
theorem memR_len(anc:Nat):∀(R:List Rec) (k:Nat),(memR anc k R).length=lenR R
 |[],k=>rfl
 |r::s,k=>by
  simp only[memR,List.length_append,lenR,memR_len anc s (k+1)];cases Nat.testBit anc k<;>simp
theorem memR_get(anc:Nat):∀(R:List Rec) (k i:Nat) (b:Blk),(memR anc k R)[i]?=some b→∃j r q c,R[j]?=some r∧r.blks[q]?=some c∧i=lenR (R.take j)+q∧((Nat.testBit anc (k+j)=true∧b=c.toRo)∨b=.dead)
 |[],k,i,b,h=>by simp[memR]at h
 |r::s,k,i,b,h=>by
  simp only[memR]at h;have hlen:(bif Nat.testBit anc k then r.blks.map Blk.toRo else r.blks.map fun _=>Blk.dead).length=r.blks.length:=by cases Nat.testBit anc k<;>simp
  rcases Nat.lt_or_ge i r.blks.length with hlt|hge
  ·rw[List.getElem?_append_left (by omega)]at h;refine⟨0,r,i,r.blks[i],by simp,List.getElem?_eq_getElem hlt,by simp[lenR],?_⟩;cases ht:Nat.testBit anc k with
   |true=>rw[ht,cond_true,List.getElem?_map,List.getElem?_eq_getElem hlt]at h;simp at h;exact .inl ⟨(by simp only),h.symm⟩
   |false=>rw[ht,cond_false,List.getElem?_map,List.getElem?_eq_getElem hlt]at h;simp at h;exact .inr h.symm
  ·rw[List.getElem?_append_right (by omega),hlen]at h;obtain⟨j,r',q,c,h1,h2,h3,h4⟩:=memR_get anc s (k+1) _ b h;refine⟨j+1,r',q,c,by simpa using h1,h2,by simp only[List.take_succ_cons,lenR];omega,?_⟩;rcases h4 with⟨h4,h5⟩|h4
   ·exact .inl ⟨by rw[←h4];congr 1;omega,h5⟩
   ·exact .inr h4
theorem tmpR_get(anc t:Nat):∀(R:List Rec) (k:Nat) (v:V),tmpR anc t k R=some v→∃j r,R[j]?=some r∧r.dst=some t∧Nat.testBit anc (k+j)=true∧v=r.v
 |[],k,v,h=>by simp[tmpR]at h
 |r::s,k,v,h=>by
  simp only[tmpR]at h;have next:tmpR anc t (k+1) s=some v→∃j r',(r::s)[j]?=some r'∧r'.dst=some t∧Nat.testBit anc (k+j)=true∧v=r'.v:=by
   intro h;obtain⟨j,r',h1,h2,h3,h4⟩:=tmpR_get anc t s (k+1) v h;exact⟨j+1,r',by simpa using h1,h2,by rw[←h3];congr 1;omega,h4⟩
  split at h
  ·rename_i d hd;cases hb:Nat.beq d t with
   |true=>
    rw[hb,cond_true]at h;cases ht:Nat.testBit anc k with
    |true=>rw[ht,cond_true]at h;cases h;exact⟨0,r,by simp,by rw[hd,Nat.eq_of_beq_eq_true hb],ht,rfl⟩
    |false=>rw[ht,cond_false]at h;cases h
   |false=>rw[hb,cond_false]at h;exact next h
  ·exact next h
theorem opVal_upon(hc:CallOk P call){n:List MB}{mem:St}{T:Nat→Option V}{a:Act}{F:Fence}{Q:Exit→Act→World→Prop}{mF:List MB}(hF:FOk mF ro F)
  (hT:∀t v,T t=some v→∃x,a.tmps[t]?=some x∧real n v=some x)(hr:Rel w.heap.size w n mem w){o:Oper}{v:V}{s2:St}(h:opVal P call T mem o.op=some (v,s2))(hnd:∀c,o.op≠.defer c)
  {K:Act→World→Prop}(hK:∀x m' w',Ext n m'→real m' v=some x→Rel w.heap.size w m' s2 w'→K (a.put o.dst x) w'):o.wpIn F 0 P a w K Q:=by
 have hρ:∀x v,ev T x=some v→real n v=some (a.eval x):=by
  intro x v hv;cases x with
  |tmp t=>
   obtain⟨y,h1,h2⟩:=hT t v hv;rw[h2];simp[Act.eval,Array.getD_eq_getD_getElem?,h1]
  |const c=>exact real_ofConst n hv
  |global g=>exact ev_global hv
  |func f=>simp only[ev,Option.some.injEq]at hv;subst hv;simp[real,realL,Act.eval]
 unfold opVal at h;refine⟨fun g _=>hF.fn g,?_⟩;rw[Oper.semAt_eq _ _ _ hnd];split at h
 ·rename_i v' hv;cases h;obtain⟨x,h1,h2⟩:=pureOp_ok hr hρ hv;rw[h2,Oper.uponIn_value];exact hK x n w (Ext.refl n) h1 hr
 ·split at h
  ·rename_i r hv;cases h;obtain⟨x,m',w',h1,h2,h3,h4⟩:=effOp_ok hr hρ hv;rcases h4 with h4|⟨h4,rfl⟩
   ·rw[h4,Oper.uponIn_value];exact hK x m' w' h1 h2 h3
   ·rw[h4,Oper.uponIn_skip];exact hK _ m' w' h1 h2 h3
  ·split at h
   ·rename_i x args ats ho;split at h
    ·rename_i g fs cs as hx has;cases hp:plainFn P g with
     |false=>rw[hp]at h;cases h
     |true=>
      rw[hp,cond_true]at h;have h1:=hρ _ _ hx;have h2:=evL_ok hρ has;simp only[real]at h1;split at h1
      ·rename_i rfs rcs hfs hcs;have hrun:(execOp a.eval o).run P w=.ok (.enter g (rfs++args.toList.map a.eval++rcs).toArray) w:=by
        simp only[execOp,ho,resolve,Sem.run_bind];rw[←Option.some.inj h1];simp only[Deferred.ofValue,Sem.run_pure,Result.andThen_ok,invoke];rw[run_callFunc hp];congr 2;apply Array.ext';simp
       have hcalls:=doCall_ok hc h w.heap.size w n w _ (realL_append (realL_append hfs h2) hcs) hr;rw[hrun,Oper.uponIn_enter];refine hF.calls (hcalls.mono ?_);rintro e w' ⟨v',y,m',st',rfl,e1,e2,e3,e4⟩;cases e4;exact hK y m' w' e1 e2 e3
      ·cases h1
    ·rename_i l as hx has;have h1:=hρ _ _ hx;have h2:=evL_ok hρ has;simp only[real]at h1;split at h1
     ·rename_i e he;obtain⟨fn,tmps,assign,body,hy,hround⟩:=hc (.yld l) as mem _ h w.heap.size w n w _ e h2 hr (at_get he);have hrun:(execOp a.eval o).run P w=.ok (.round e.blk fn tmps assign body) w:=by
       simp only[execOp,ho,resolve,Sem.run_bind];rw[←Option.some.inj h1];simp only[Deferred.ofValue,Sem.run_pure,Result.andThen_ok,invoke];have:(#[]:Array Value)++args.map a.eval=(args.toList.map a.eval).toArray:=by apply Array.ext';simp
       rw[this];exact hy
      rw[hrun,Oper.uponIn_round];refine hF.round (hround.mono ?_);rintro e' w' ⟨v',y,m',st',rfl,e1,e2,e3,e4⟩;cases e4;exact hK y m' w' e1 e2 e3
     ·cases h1
    ·cases h
   ·cases h
theorem opValC_upon{ops:Array Oper}(hc:CallOk P call){n:List MB}{mem:St}{T:Nat→Option V}{a:Act}{F:Fence}{Q:Exit→Act→World→Prop}{mF:List MB}(hF:FOk mF ro F)
  (hT:∀t v,T t=some v→∃x,a.tmps[t]?=some x∧real n v=some x)(hr:Rel w.heap.size w n mem w){o:Oper}{v:V}{s2:St}(h:opVal P call T mem o.op=some (v,s2))(hnd:∀c,o.op≠.defer c)
  {K:Act→World→Prop}(hK:∀x m' w',Ext n m'→real m' (capX (capB ops o) v)=some x→Rel w.heap.size w m' s2 w'→K (a.put o.dst x) w'):o.wpIn F 0 P a w K Q:=by
 cases hcb:capB ops o with
 |false=>
  refine opVal_upon hc hF hT hr h hnd fun x m' w' h1 h2 h3=>hK x m' w' h1 ?_ h3;rw[hcb];exact h2
 |true=>
  rw[hcb]at hK;have hρ:∀x v,ev T x=some v→real n v=some (a.eval x):=by
   intro x v hv;cases x with
   |tmp t=>
    obtain⟨y,h1,h2⟩:=hT t v hv;rw[h2];simp[Act.eval,Array.getD_eq_getD_getElem?,h1]
   |const c=>exact real_ofConst n hv
   |global g=>exact ev_global hv
   |func f=>simp only[ev,Option.some.injEq]at hv;subst hv;simp[real,realL,Act.eval]
  unfold capB at hcb;split at hcb
  ·rename_i t len parts ho;refine⟨fun g _=>hF.fn g,?_⟩;rw[Oper.semAt_eq _ _ _ hnd];unfold opVal at h;rw[ho]at h;simp only[pureOp]at h;split at h
   ·rename_i r hv;cases h;simp only[effOp]at hv;split at hv
    ·rename_i ps hps;have hp:=evParts_ok hρ hps;obtain⟨x',m',w',q1,q2,q3,q4⟩:=buildSliceV_okC (rs:=parts.map fun p=>(p.1,a.eval p.2)) hr hv (by simpa using hp);have h4:(execOp a.eval o).run P w=.ok (.value x') w':=by simp only[execOp,ho];simp[q4]
     rw[h4,Oper.uponIn_value];exact hK x' m' w' q1 q2 q3
    ·cases hv
   ·cases h
  ·cases hcb
theorem guardT_ok{n:List MB}{ops:Array Oper}{T:Nat→Option V}{a:Act}{o:Oper}{b:Bool}(hT:∀t v,T t=some v→∃x,a.tmps[t]?=some x∧real n v=some x)(hg:guardT ops T o=some b):Region.wanted o (yielded ops a.tmps)=b:=by
 unfold guardT at hg;unfold Region.wanted;split at hg
 ·rename_i h0;cases hg;rw[h0]
 ·rename_i j want h0;rw[h0];split at hg
  ·rename_i oj hj;split at hg
   ·rename_i d hd;split at hg
    ·rename_i b' hb;cases hg;obtain⟨x,h1,h2⟩:=hT d _ hb;cases real_bool h2;simp[yielded,hj,hd,h1]
    ·rename_i hb;cases hg;obtain⟨x,h1,h2⟩:=hT d _ hb;obtain⟨xs,h3,rfl⟩:=real_tuple h2;simp[yielded,hj,hd,h1]
    ·cases hg
   ·cases hg
  ·cases hg
end
end Go.Vm
namespace Go.Vm
variable [G:Glob] [Φ:Frz]
set_option linter.unusedSectionVars false
set_option linter.unusedVariables false
open Go.RowKit
theorem rw_live(b:Blk)(hb:b.rw=true):b.live=true:=by cases b<;>first|rfl|simp[Blk.rw]at hb
theorem evalR_spec{P:Program}{call:Call}{ops:Array Oper}{f:Fr}{st:St}{dsts:List Tmp}:∀(l:List Oper) (recs R:List Rec),evalR P call ops f st dsts l recs=some R→
  R.take recs.length=recs∧R.length=recs.length+l.length∧∀(j:Nat) (o:Oper),l[j]?=some o→∃r,R[recs.length+j]?=some r∧stepR P call ops f st dsts (R.take (recs.length+j)) o=some r
 |[],recs,R,h=>by
  simp only[evalR,Option.some.injEq]at h;subst h;exact⟨by simp,by simp,fun j o hj=>by simp at hj⟩
 |o::l,recs,R,h=>by
  simp only[evalR]at h;split at h
  ·rename_i x hx;obtain⟨h1,h2,h3⟩:=evalR_spec l (recs++[x]) R h;have ht:R.take recs.length=recs:=by
    have:=congrArg (List.take recs.length) h1;rw[List.take_take,List.length_append]at this;simpa[Nat.min_eq_left]using this
   have hx':R[recs.length]?=some x:=by
    have:=congrArg (fun q:List Rec=>q[recs.length]?) h1;simpa using this
   refine⟨ht,by simp at h2;simp;omega,fun j o' hj=>?_⟩;cases j with
   |zero=>
    simp only[List.getElem?_cons_zero,Option.some.injEq]at hj;subst hj;exact⟨x,by simpa using hx',by simpa[ht]using hx⟩
   |succ j=>
    simp only[List.getElem?_cons_succ]at hj;obtain⟨r,g1,g2⟩:=h3 j o' hj;have e:(recs++[x]).length+j=recs.length+(j+1):=by simp;omega
    rw[e]at g1 g2;exact⟨r,g1,g2⟩
  ·cases h
theorem ancOf_bit{recs:List Rec}{k:Nat}:∀{es:List Edge},Nat.testBit (ancOf recs es) k=true→∃e∈es,Region.binds .any e=true∧(e.on=k∨∃r,recs[e.on]?=some r∧Nat.testBit r.anc k=true)
 |[],h=>by simp[ancOf]at h
 |e::r,h=>by
  simp only[ancOf]at h;cases hb:Region.binds .any e with
  |false=>
   rw[hb,cond_false]at h;obtain⟨e',h1,h2,h3⟩:=ancOf_bit h;exact⟨e',List.mem_cons_of_mem _ h1,h2,h3⟩
  |true=>
   rw[hb,cond_true,Nat.testBit_or,Nat.testBit_or,Bool.or_eq_true,Bool.or_eq_true]at h;rcases h with(h|h)|h
   ·refine⟨e,List.mem_cons_self,hb,.inl ?_⟩;rw[Nat.one_shiftLeft,Nat.testBit_two_pow]at h;simpa using h
   ·refine⟨e,List.mem_cons_self,hb,.inr ?_⟩;cases hr:recs[e.on]? with
    |none=>simp[hr]at h
    |some q=>simp[hr]at h;exact⟨q,rfl,h⟩
   ·obtain⟨e',h1,h2,h3⟩:=ancOf_bit h;exact⟨e',List.mem_cons_of_mem _ h1,h2,h3⟩
theorem stepR_parts{P:Program}{call:Call}{ops:Array Oper}{f:Fr}{st:St}{dsts:List Tmp}{recs:List Rec}{o:Oper}{r:Rec}(h:stepR P call ops f st dsts recs o=some r):
  (∀e∈o.after,Region.binds .any e=true→e.on<recs.length)∧r.dst=o.dst∧r.anc=ancOf recs o.after.toList∧
  ((guardT ops (frameR f dsts r.anc recs) o=some false∧r.v=.tuple []∧r.blks=[])∨
   (guardT ops (frameR f dsts r.anc recs) o=some true∧∃v s2,opVal P call (frameR f dsts r.anc recs) (st.map Blk.toRo++memR r.anc 0 recs) o.op=some (v,s2)∧r.v=capX (capB ops o) v∧r.blks=(s2.drop (st.length+lenR recs)).map Blk.keep)):=by
 unfold stepR at h;cases hb:o.after.toList.all (fun e=>!Region.binds .any e||Nat.blt e.on recs.length)with
 |false=>rw[hb]at h;cases h
 |true=>
  rw[hb,cond_true]at h;have h0:∀e∈o.after,Region.binds .any e=true→e.on<recs.length:=by
   intro e he hbe;have:=List.all_eq_true.1 hb e (by simpa using he);simp only[hbe,Bool.not_true,Bool.false_or]at this;exact blt_true this
  split at h
  ·rename_i hg;cases h;exact⟨h0,rfl,rfl,.inl ⟨hg,rfl,rfl⟩⟩
  ·rename_i hg;split at h
   ·rename_i v s2 hv;cases h;exact⟨h0,rfl,rfl,.inr ⟨hg,v,s2,hv,rfl,rfl⟩⟩
   ·cases h
  ·cases h
def BlkAt(st:St)(R:List Rec)(S:Nat→Prop)(i:Nat)(b:Blk):Prop:=
 st[i]?=some b∨∃j r k,R[j]?=some r∧S j∧r.blks[k]?=some b∧i=st.length+lenR (R.take j)+k
structure Inv (B:Nat) (W0:World) (m:List MB) (st:St) (f:Fr) (R:List Rec) (dsts:List Tmp) (S:Nat→Prop) (a:Act) (w:World) (mS:List MB):Prop where
 len:mS.length=st.length+lenR R
 ext:Ext m mS
 old:Rel B W0 m st w
 done:∀(j:Nat) (r:Rec),R[j]?=some r→S j→∀(k:Nat) (b:Blk),r.blks[k]?=some b→∃e,mS[st.length+lenR (R.take j)+k]?=some e∧BlkOk B (mS.take (st.length+lenR (R.take (j+1)))) w e b
 todo:∀(j:Nat) (r:Rec),R[j]?=some r→¬S j→∀k,k<r.blks.length→mS[st.length+lenR (R.take j)+k]?=some hole
 inj:∀(i i':Nat) (b b':Blk) (e e':MB),i≠i'→BlkAt st R S i b→b.rw=true→BlkAt st R S i' b'→b'.live=true→mS[i]?=some e→mS[i']?=some e'→e.blk≠e'.blk
 sz:a.tmps.size=f.sz
 val:∀(j:Nat) (r:Rec) (d:Tmp),R[j]?=some r→S j→r.dst=some d→∃x,a.tmps[d]?=some x∧real (mS.take (st.length+lenR (R.take (j+1)))) r.v=some x
 kept:∀(t:Nat) (v:V),t∉dsts→f.T.get t=some v→∃x,a.tmps[t]?=some x∧real m v=some x
 defers:DOk m f.defs a.defers
section
variable {P:Program} {call:Call} {ro:Option Nat} {f:Fr} {st:St} {B:Nat} {W0 w w':World} {m mS:List MB} {R:List Rec} {dsts:List Tmp} {S:Nat→Prop} {a:Act}
theorem Ext.take{m mS:List MB}{n k:Nat}(h:n≤k):Ext (mS.take n) (mS.take k):=by
 intro b e hb;rw[List.getElem?_take]at hb ⊢;split at hb
 ·rename_i hlt;rw[if_pos (by omega)];exact hb
 ·cases hb
theorem Ext.into_take{k:Nat}(h:Ext m mS)(hk:m.length≤k):Ext m (mS.take k):=by
 intro b e hb;have:=(List.getElem?_eq_some_iff.1 hb).1;rw[List.getElem?_take,if_pos (by omega)];exact h b e hb
theorem place_lt{j j':Nat}{r r':Rec}{k k':Nat}(h:R[j]?=some r)(h':R[j']?=some r')(hk:k<r.blks.length)(hk':k'<r'.blks.length)(he:lenR (R.take j)+k=lenR (R.take j')+k'):j=j':=by
 rcases Nat.lt_trichotomy j j' with hlt|heq|hgt
 ·have h1:=lenR_take_succ h;have h2:=lenR_take_le R (i:=j+1) (j:=j') (by omega);omega
 ·exact heq
 ·have h1:=lenR_take_succ h';have h2:=lenR_take_le R (i:=j'+1) (j:=j) (by omega);omega
theorem Inv.look(hI:Inv B W0 m st f R dsts S a w mS){i anc:Nat}(hi:i≤R.length)(hanc:∀k,Nat.testBit anc k=true→S k):
  (∀t v,frameR f dsts anc (R.take i) t=some v→∃x,a.tmps[t]?=some x∧real (mS.take (st.length+lenR (R.take i))) v=some x)∧
  Rel w.heap.size w (mS.take (st.length+lenR (R.take i))) (st.map Blk.toRo++memR anc 0 (R.take i)) w:=by
 have hmle:m.length≤st.length+lenR (R.take i):=by rw[hI.old.len];omega
 have htot:st.length+lenR (R.take i)≤mS.length:=by
  rw[hI.len];have:=lenR_take_le R hi;rw[List.take_length]at this;omega
 have gtake:∀{j:Nat} {r:Rec},(R.take i)[j]?=some r→j<i∧R[j]?=some r:=by
  intro j r h;rw[List.getElem?_take]at h;split at h
  ·rename_i hlt;exact⟨hlt,h⟩
  ·cases h
 constructor
 ·intro t v hv;unfold frameR at hv;cases hd:dsts.any (Nat.beq t)with
  |true=>
   rw[hd,cond_true]at hv;obtain⟨j,r,h1,h2,h3,rfl⟩:=tmpR_get anc t _ 0 v hv;obtain⟨hji,hj⟩:=gtake h1;obtain⟨x,hx,hr⟩:=hI.val j r t hj (hanc j (by simpa using h3)) h2;exact⟨x,hx,real_mono (Ext.take (m:=m) (by have:=lenR_take_le R (i:=j+1) (j:=i) (by omega);omega)) _ _ hr⟩
  |false=>
   rw[hd,cond_false]at hv;have hnd:t∉dsts:=by
    intro hmem;have:dsts.any (Nat.beq t)=true:=List.any_eq_true.2 ⟨t,hmem,Nat.beq_refl t⟩;rw[hd]at this;cases this
   obtain⟨x,hx,hr⟩:=hI.kept t v hnd hv;exact⟨x,hx,real_mono (hI.ext.into_take hmle) _ _ hr⟩
 ·refine Rel.ofRo hI.old.gok ?_ ?_
  ·rw[List.length_take,List.length_append,List.length_map,memR_len];omega
  ·intro p b e hb he;rw[List.getElem?_take]at he;split at he
   case isFalse=>cases he
   rename_i hp;rcases Nat.lt_or_ge p st.length with hlt|hge
   ·rw[List.getElem?_append_left (by simpa using hlt),List.getElem?_map]at hb;cases hc:st[p]? with
    |none=>simp[hc]at hb
    |some c=>
     simp only[hc,Option.map_some,Option.some.injEq]at hb;subst hb;obtain⟨e',he',hok⟩:=hI.old.at hc;have:=hI.ext p e' he';rw[he]at this;cases this;exact⟨(hok.mono (hI.ext.into_take hmle)).toRo _,toRo_rw c⟩
   ·rw[List.getElem?_append_right (by simpa using hge),List.length_map]at hb;obtain⟨j,r,q,c,h1,h2,h3,h4⟩:=memR_get anc _ 0 _ b hb;obtain⟨hji,hj⟩:=gtake h1;rcases h4 with⟨h4,rfl⟩|rfl
    ·obtain⟨e',he',hok⟩:=hI.done j r hj (hanc j (by simpa using h4)) q c h2;have htk:(R.take i).take j=R.take j:=by rw[List.take_take];congr 1;omega
     rw[htk]at h3;have:p=st.length+lenR (R.take j)+q:=by omega
     rw[←this,he]at he';cases he';exact⟨(hok.mono (Ext.take (m:=m) (by have:=lenR_take_le R (i:=j+1) (j:=i) (by omega);omega))).toRo _,toRo_rw c⟩
    ·exact⟨trivial,rfl⟩
theorem Inv.step(hI:Inv B W0 m st f R dsts S a w mS){i:Nat}{r:Rec}(hi:R[i]?=some r)(hS:¬S i)(hdis:∀(j:Nat) (r':Rec) (d:Tmp),R[j]?=some r'→r.dst=some d→r'.dst=some d→j=i)
  (hds:∀d,r.dst=some d→d<f.sz∧d∈dsts){x:Value}{m':List MB}{s2:St}(he:Ext (mS.take (st.length+lenR (R.take i))) m')(hx:real m' r.v=some x)(hr:Rel w.heap.size w m' s2 w')
  (hblk:r.blks=(s2.drop (st.length+lenR (R.take i))).map Blk.keep):
  ∃mS',AExt mS mS'∧(∀p,p<st.length+lenR (R.take (i+1))→mS'[p]?=m'[p]?)∧Inv B W0 m st f R dsts (fun j=>S j∨j=i) (a.put r.dst x) w' mS':=by
 have hlt:i<R.length:=(List.getElem?_eq_some_iff.1 hi).1;have htot:st.length+lenR (R.take (i+1))≤mS.length:=by
  rw[hI.len];have:=lenR_take_le R (i:=i+1) (j:=R.length) (by omega);rw[List.take_length]at this;omega
 have hsucc:=lenR_take_succ hi;generalize hO:st.length+lenR (R.take i)=O at*
 have hO1:st.length+lenR (R.take (i+1))=O+r.blks.length:=by omega
 have hnl:(mS.take O).length=O:=by rw[List.length_take];omega
 have hm'ge:O≤m'.length:=by
  rcases Nat.eq_zero_or_pos O with h0|h0
  ·omega
  ·have hg:(mS.take O)[O-1]?=some (mS.take O)[O-1]:=List.getElem?_eq_getElem (by omega);have:=(List.getElem?_eq_some_iff.1 (he _ _ hg)).1;omega
 have hm'len:m'.length=O+r.blks.length:=by
  rw[hblk,List.length_map,List.length_drop,←hr.len];omega
 -- the new map
 have lo:∀{p:Nat},p<O→(m'++mS.drop (O+r.blks.length))[p]?=mS[p]?:=by
  intro p hp;rw[List.getElem?_append_left (by omega)];have hg:(mS.take O)[p]?=some (mS.take O)[p]:=List.getElem?_eq_getElem (by omega);have h1:=he _ _ hg;rw[h1,←hg,List.getElem?_take,if_pos hp]
 have mid:∀{p:Nat},p<O+r.blks.length→(m'++mS.drop (O+r.blks.length))[p]?=m'[p]?:=by
  intro p hp;rw[List.getElem?_append_left (by omega)]
 have hiP:∀{p:Nat},O+r.blks.length≤p→(m'++mS.drop (O+r.blks.length))[p]?=mS[p]?:=by
  intro p hp;rw[List.getElem?_append_right (by omega),List.getElem?_drop];congr 1;omega
 have hout:∀{p:Nat} {e:MB},mS[p]?=some e→e.hole=false→(m'++mS.drop (O+r.blks.length))[p]?=some e:=by
  intro p e hp hh;rcases Nat.lt_or_ge p O with h1|h1
  ·rw[lo h1];exact hp
  ·rcases Nat.lt_or_ge p (O+r.blks.length)with h2|h2
   ·have:=hI.todo i r hi hS (p-O) (by omega);rw[hO]at this;have hpe:O+(p-O)=p:=by omega
    rw[hpe,hp]at this;cases this;simp[hole]at hh
   ·rw[hiP h2];exact hp
 have hax:∀k,AExt (mS.take k) ((m'++mS.drop (O+r.blks.length)).take k):=by
  intro k b e hb;have h1:=at_get hb;have h2:=at_solid hb;rw[List.getElem?_take]at h1;split at h1
  ·rename_i hk;refine at_of ?_ h2;rw[List.getElem?_take,if_pos hk];exact hout h1 h2
  ·cases h1
 have htake:(m'++mS.drop (O+r.blks.length)).take (O+r.blks.length)=m':=by
  rw[←hm'len];exact List.take_left
 have hpos:∀{j:Nat} {r':Rec} {k:Nat},R[j]?=some r'→j≠i→k<r'.blks.length→(m'++mS.drop (O+r.blks.length))[st.length+lenR (R.take j)+k]?=mS[st.length+lenR (R.take j)+k]?:=by
  intro j r' k hj hne hk;rcases Nat.lt_trichotomy j i with h1|h1|h1
  ·refine lo ?_;have h2:=lenR_take_succ hj;have h3:=lenR_take_le R (i:=j+1) (j:=i) (by omega);omega
  ·exact absurd h1 hne
  ·refine hiP ?_;have h3:=lenR_take_le R (i:=i+1) (j:=j) (by omega);omega
 have hNlen:(m'++mS.drop (O+r.blks.length)).length=st.length+lenR R:=by
  rw[List.length_append,List.length_drop,hm'len,hI.len];rw[hI.len]at htot;omega
 generalize (m'++mS.drop (O+r.blks.length))=mN at*
 have hbw:Below w.heap.size w w':=hr.below;have livelt:∀{p:Nat} {b:Blk} {e:MB},BlkAt st R S p b→b.live=true→mS[p]?=some e→e.blk<w.heap.size:=by
  intro p b e hb hl hp;rcases hb with hb|⟨j,r',k,h1,h2,h3,rfl⟩
  ·obtain⟨e',he',hok⟩:=hI.old.at hb;have:=hI.ext p e' he';rw[hp]at this;cases this;exact hok.lt hl
  ·obtain⟨e',he',hok⟩:=hI.done j r' h1 h2 k b h3;rw[hp]at he';cases he';exact hok.lt hl
 have newblk:∀{k:Nat} {b:Blk},r.blks[k]?=some b→∃c e,s2[O+k]?=some c∧b=c.keep∧m'[O+k]?=some e∧BlkOk w.heap.size m' w' e c:=by
  intro k b hb;rw[hblk,List.getElem?_map,List.getElem?_drop]at hb;cases hc:s2[O+k]? with
  |none=>simp[hc]at hb
  |some c=>
   simp only[hc,Option.map_some,Option.some.injEq]at hb;obtain⟨e,he',hok⟩:=hr.at hc;exact⟨c,e,rfl,hb.symm,he',hok⟩
 have stpos:∀{p:Nat},p<st.length→p<O:=fun{p} hp=>by omega
 refine⟨mN,fun b e hb=>at_of (hout (at_get hb) (at_solid hb)) (at_solid hb),fun p hp=>mid (by omega),?_⟩;refine⟨hNlen,?_,hI.old.later hbw,?_,?_,?_,?_,?_,?_,by cases r.dst<;>exact hI.defers⟩
 ·intro b e hb;have h1:=hI.ext b e hb;have h2:=(List.getElem?_eq_some_iff.1 hb).1;rw[lo (by rw[hI.old.len]at h2;omega)];exact h1
 ·-- done
  intro j r' hj hSj k b hb;have hk:k<r'.blks.length:=(List.getElem?_eq_some_iff.1 hb).1;by_cases hji:j=i
  ·subst hji;rw[hi]at hj;cases hj;obtain⟨c,e,h1,rfl,h3,h4⟩:=newblk hb;rw[hO,hO1,htake];exact⟨e,by rw[mid (by omega)];exact h3,(h4.keep).lower hI.old.base⟩
  ·obtain⟨e,h1,h2⟩:=hI.done j r' hj (hSj.resolve_right hji) k b hb;refine⟨e,by rw[hpos hj hji hk];exact h1,?_⟩;exact(h2.amono (hax _)).same fun hl=>hbw.block _ (h2.lt hl)
 ·-- todo
  intro j r' hj hSj k hk;have hji:j≠i:=fun e=>hSj (.inr e);rw[hpos hj hji hk];exact hI.todo j r' hj (fun h=>hSj (.inl h)) k hk
 ·-- two blocks are two
  have split:∀{p:Nat} {b:Blk},BlkAt st R (fun j=>S j∨j=i) p b→(BlkAt st R S p b∧mN[p]?=mS[p]?)∨(∃k,r.blks[k]?=some b∧p=O+k):=by
   intro p b hb;rcases hb with hb|⟨j,r',k,h1,h2,h3,rfl⟩
   ·exact .inl ⟨.inl hb,lo (stpos (List.getElem?_eq_some_iff.1 hb).1)⟩
   ·by_cases hji:j=i
    ·subst hji;rw[hi]at h1;cases h1;exact .inr ⟨k,h3,by omega⟩
    ·have hb2:BlkAt st R S (st.length+lenR (R.take j)+k) b:=Or.inr ⟨j,r',k,h1,h2.resolve_right hji,h3,rfl⟩;have hk2:k<r'.blks.length:=(List.getElem?_eq_some_iff.1 h3).1;exact Or.inl ⟨hb2,hpos h1 hji hk2⟩
  have rwl:=rw_live;intro p p' b b' e e' hpp hb hrw hb' hlv hp hp';rcases split hb with⟨hb,hs⟩|⟨k,hk,rfl⟩
  ·rcases split hb' with⟨hb',hs'⟩|⟨k',hk',rfl⟩
   ·rw[hs]at hp;rw[hs']at hp';exact hI.inj p p' b b' e e' hpp hb hrw hb' hlv hp hp'
   ·rw[hs]at hp;have l1:=livelt hb (rwl _ hrw) hp;obtain⟨c,d,h1,rfl,h3,h4⟩:=newblk hk';rw[mid (by have:=(List.getElem?_eq_some_iff.1 hk').1;omega),h3]at hp';cases hp';have:=keep_base h4 hlv;omega
  ·obtain⟨c,d,h1,rfl,h3,h4⟩:=newblk hk;rw[mid (by have:=(List.getElem?_eq_some_iff.1 hk).1;omega),h3]at hp;cases hp;rcases split hb' with⟨hb',hs'⟩|⟨k',hk',rfl⟩
   ·rw[hs']at hp';have l1:=livelt hb' hlv hp';have:=keep_base h4 (rwl _ hrw);omega
   ·obtain⟨c',d',h1',rfl,h3',h4'⟩:=newblk hk';rw[mid (by have:=(List.getElem?_eq_some_iff.1 hk').1;omega),h3']at hp';cases hp';have r1:c.rw=true:=by
     cases c with
     |ro own cs=>cases own<;>simp[Blk.keep,Blk.rw]at hrw
     |_=>first|rfl|simp[Blk.keep,Blk.rw]at hrw
    have l1:c'.live=true:=by cases c'<;>first|rfl|simp[Blk.keep,Blk.live]at hlv
    exact hr.inj (O+k) (O+k') c c' _ _ hpp h1 r1 h1' l1 h3 h3'
 ·have:=hI.sz;cases r.dst<;>simp[Act.put,this]
 ·-- values
  intro j r' d hj hSj hd;by_cases hji:j=i
  ·subst hji;rw[hi]at hj;cases hj;rw[hO1,htake];refine⟨x,?_,hx⟩;have hdl:=(hds d hd).1;simp[Act.put,hd,hI.sz,hdl]
  ·obtain⟨y,h1,h2⟩:=hI.val j r' d hj (hSj.resolve_right hji) hd;refine⟨y,?_,real_amono (hax _) _ _ h2⟩;cases hrd:r.dst with
   |none=>exact h1
   |some d0=>
    have hne:d0≠d:=by
     intro e;subst e;exact hji (hdis j r' d0 hj hrd hd)
    simp only[Act.put,Array.getElem?_setIfInBounds];rw[if_neg hne];exact h1
 ·intro t v ht hv;obtain⟨y,h1,h2⟩:=hI.kept t v ht hv;refine⟨y,?_,h2⟩;cases hrd:r.dst with
  |none=>exact h1
  |some d0=>
   have hne:d0≠t:=fun e=>ht (e▸(hds d0 hrd).2);simp only[Act.put,Array.getElem?_setIfInBounds];rw[if_neg hne];exact h1
theorem blksR_get:∀(R:List Rec) (i:Nat) (b:Blk),(blksR R)[i]?=some b→∃j r q,R[j]?=some r∧r.blks[q]?=some b∧i=lenR (R.take j)+q
 |[],i,b,h=>by simp[blksR]at h
 |r::s,i,b,h=>by
  simp only[blksR]at h;rcases Nat.lt_or_ge i r.blks.length with hlt|hge
  ·rw[List.getElem?_append_left hlt]at h;exact⟨0,r,i,by simp,h,by simp[lenR]⟩
  ·rw[List.getElem?_append_right hge]at h;obtain⟨j,r',q,h1,h2,h3⟩:=blksR_get s _ b h;exact⟨j+1,r',q,by simpa using h1,h2,by simp only[List.take_succ_cons,lenR];omega⟩
theorem blksR_len:∀(R:List Rec),(blksR R).length=lenR R
 |[]=>rfl
 |r::s=>by simp[blksR,lenR,blksR_len s]
theorem putsR_sz:∀(R:List Rec) (f:Fr),(putsR f R).sz=f.sz∧(putsR f R).defs=f.defs
 |[],f=>⟨rfl,rfl⟩
 |r::s,f=>by
  obtain⟨h1,h2⟩:=putsR_sz s (f.put r.dst r.v);simp only[putsR];rw[h1,h2];cases hd:r.dst with
  |none=>exact⟨rfl,rfl⟩
  |some d=>unfold Fr.put;cases hb:Nat.blt d f.sz<;>simp[hb]
theorem putsR_get:∀(R:List Rec) (f:Fr) (t:Nat) (v:V),(∀(j:Nat) (r:Rec) (d:Tmp),R[j]?=some r→r.dst=some d→d<f.sz)→(putsR f R).T.get t=some v→
  (∃(j:Nat) (r:Rec),R[j]?=some r∧r.dst=some t∧v=r.v)∨(f.T.get t=some v∧∀(j:Nat) (r:Rec),R[j]?=some r→r.dst≠some t)
 |[],f,t,v,_,h=>.inr ⟨h,fun j r hj=>by simp at hj⟩
 |r::s,f,t,v,hd,h=>by
  simp only[putsR]at h;have hsz:(f.put r.dst r.v).sz=f.sz:=by
   cases hdd:r.dst with
   |none=>rfl
   |some d=>unfold Fr.put;cases hb:Nat.blt d f.sz<;>simp[hb]
  rcases putsR_get s _ t v (fun j r' d hj he=>by rw[hsz];exact hd (j+1) r' d (by simpa using hj) he) h with⟨j,r',h1,h2,h3⟩|⟨h1,h2⟩
  ·exact .inl ⟨j+1,r',by simpa using h1,h2,h3⟩
  ·cases hdd:r.dst with
   |none=>
    rw[hdd]at h1;refine .inr ⟨h1,fun j r' hj=>?_⟩;cases j with
    |zero=>simp only[List.getElem?_cons_zero,Option.some.injEq]at hj;subst hj;rw[hdd];simp
    |succ j=>exact h2 j r' (by simpa using hj)
   |some d=>
    have hlt:=hd 0 r d (by simp) hdd;have hb:Nat.blt d f.sz=true:=Nat.ble_eq_true_of_le hlt;have e1:f.put (some d) r.v=⟨f.sz,f.T.put d r.v,f.defs⟩:=by simp[Fr.put,hb]
    rw[hdd,e1]at h1;rcases Tr.get_put h1 with⟨rfl,rfl⟩|⟨hne,h1⟩
    ·exact .inl ⟨0,r,by simp,hdd,rfl⟩
    ·refine .inr ⟨h1,fun j r' hj=>?_⟩;cases j with
     |zero=>simp only[List.getElem?_cons_zero,Option.some.injEq]at hj;subst hj;rw[hdd];exact fun e=>hne (Option.some.inj e).symm
     |succ j=>exact h2 j r' (by simpa using hj)
theorem Inv.all(hI:Inv B W0 m st f R dsts S a w mS)(hS:∀j,j<R.length→S j)(hd:∀(j:Nat) (r:Rec) (d:Tmp),R[j]?=some r→r.dst=some d→d<f.sz)(hds:∀t,t∈dsts→∃(j:Nat) (r:Rec),R[j]?=some r∧r.dst=some t):
  AOk mS (putsR f R) a∧Rel B W0 mS (st++blksR R) w:=by
 have hlt:∀{j:Nat} {r:Rec},R[j]?=some r→j<R.length:=fun h=>(List.getElem?_eq_some_iff.1 h).1;have full:∀{j:Nat} {r:Rec},R[j]?=some r→Ext (mS.take (st.length+lenR (R.take (j+1)))) mS:=by
  intro j r hj b e hb;rw[List.getElem?_take]at hb;split at hb
  ·exact hb
  ·cases hb
 constructor
 ·refine⟨⟨?_,fun t v hv=>?_⟩,?_⟩
  ·rw[(putsR_sz R f).1];exact hI.sz
  ·rcases putsR_get R f t v hd hv with⟨j,r,h1,h2,rfl⟩|⟨h1,h2⟩
   ·obtain⟨x,hx,hr⟩:=hI.val j r t h1 (hS j (hlt h1)) h2;exact⟨x,hx,real_mono (full h1) _ _ hr⟩
   ·have:t∉dsts:=fun hm=>let ⟨j,r,g1,g2⟩:=hds t hm;h2 j r g1 g2;obtain⟨x,hx,hr⟩:=hI.kept t v this h1;exact⟨x,hx,real_mono hI.ext _ _ hr⟩
  ·rw[(putsR_sz R f).2];exact hI.defers.mono hI.ext
 ·have at':∀{p:Nat} {b:Blk},(st++blksR R)[p]?=some b→BlkAt st R S p b:=by
   intro p b hb;rcases Nat.lt_or_ge p st.length with h1|h1
   ·rw[List.getElem?_append_left h1]at hb;exact .inl hb
   ·rw[List.getElem?_append_right h1]at hb;obtain⟨j,r,q,g1,g2,g3⟩:=blksR_get R _ b hb;exact .inr ⟨j,r,q,g1,hS j (hlt g1),g2,by omega⟩
  refine⟨by rw[hI.len,List.length_append,blksR_len],hI.old.base,hI.old.below,fun p b e hb he=>?_,fun p p' b b' d d' hpp hb hrw hb' hlv hp hp'=>hI.inj p p' b b' d d' hpp (at' hb) hrw (at' hb') hlv hp hp',hI.old.glob⟩;rcases at' hb with h1|⟨j,r,k,h1,h2,h3,rfl⟩
  ·obtain⟨e',he',hok⟩:=hI.old.at h1;have:=hI.ext p e' he';rw[he]at this;cases this;exact hok.mono hI.ext
  ·obtain⟨e',he',hok⟩:=hI.done j r h1 h2 k b h3;rw[he]at he';cases he';exact hok.mono (full h1)
theorem filterMap_distinct{α:Type}(g:α→Option Tmp):∀{l:List α},distinct (l.filterMap g)=true→∀(i j:Nat) (x y:α) (d:Tmp),l[i]?=some x→l[j]?=some y→g x=some d→g y=some d→i=j
 |[],_,i,j,x,y,d,h,_,_,_=>by simp at h
 |z::r,h,i,j,x,y,d,hi,hj,hx,hy=>by
  have mem:∀{k:Nat} {u:α},r[k]?=some u→g u=some d→d∈r.filterMap g:=fun hk hu=>List.mem_filterMap.2 ⟨_,List.mem_of_getElem? hk,hu⟩;have htl:distinct (r.filterMap g)=true:=by
   cases hz:g z with
   |none=>simpa[List.filterMap_cons,hz]using h
   |some q=>rw[List.filterMap_cons,hz]at h;simp only[distinct,Bool.and_eq_true]at h;exact h.2
  have no:g z=some d→∀{k:Nat} {u:α},r[k]?=some u→g u=some d→False:=by
   intro hz k u hk hu;rw[List.filterMap_cons,hz]at h;simp only[distinct,Bool.and_eq_true,Bool.not_eq_true']at h;have:(r.filterMap g).any (Nat.beq d)=true:=List.any_eq_true.2 ⟨d,mem hk hu,Nat.beq_refl d⟩;rw[h.1]at this;cases this
  cases i with
  |zero=>
   cases j with
   |zero=>rfl
   |succ j=>simp only[List.getElem?_cons_zero,Option.some.injEq,List.getElem?_cons_succ]at hi hj;subst hi;exact(no hx hj hy).elim
  |succ i=>
   cases j with
   |zero=>simp only[List.getElem?_cons_zero,Option.some.injEq,List.getElem?_cons_succ]at hi hj;subst hj;exact(no hy hi hx).elim
   |succ j=>
    simp only[List.getElem?_cons_succ]at hi hj;exact congrArg (·+1) (filterMap_distinct g htl i j x y d hi hj hx hy)
theorem sat_draw_mem{id:Nat}{ops:Array Oper}{Q:Exit→Fr→St→Prop}(hm:P.follows .mixedOrders=true)(hc:CallOk P call){f':Fr}{st':St}(h:evalDraw P call ops f st=some (f',st'))(hq:Q .normal f' st'):
  CodeSat P ro (.region id ops true) f st Q:=by
 unfold evalDraw at h;cases hb:((distinct (dstsOf ops)&&(dstsOf ops).all (fun d=>Nat.blt d f.sz))&&noDefer ops)with
 |false=>rw[hb]at h;cases h
 |true=>
 rw[hb,cond_true]at h;simp only[Bool.and_eq_true]at hb;obtain⟨⟨hdis,hall⟩,hnd⟩:=hb;split at h
 case h_2=>cases h
 rename_i R hR;cases h;obtain⟨_,hlen,hspec⟩:=evalR_spec ops.toList [] R hR;simp only[List.length_nil,Nat.zero_add]at hlen hspec;have rec_of:∀{i:Nat} {o:Oper},ops[i]?=some o→∃r,R[i]?=some r∧stepR P call ops f st (dstsOf ops) (R.take i) o=some r:=fun ho=>hspec _ _ (by simpa using ho);have op_of:∀{i:Nat} {r:Rec},R[i]?=some r→∃o,ops[i]?=some o∧stepR P call ops f st (dstsOf ops) (R.take i) o=some r:=by
  intro i r hr;have hi:i<ops.toList.length:=hlen▸(List.getElem?_eq_some_iff.1 hr).1;have ho:ops.toList[i]?=some ops.toList[i]:=List.getElem?_eq_getElem hi;obtain⟨r',h1,h2⟩:=hspec i _ ho;rw[hr]at h1;cases h1;exact⟨_,by simp,h2⟩
 have dst_of:∀{i:Nat} {r:Rec},R[i]?=some r→∃o,ops[i]?=some o∧r.dst=o.dst:=fun hr=>let ⟨o,h1,h2⟩:=op_of hr;⟨o,h1,(stepR_parts h2).2.1⟩;have hdsz:∀(j:Nat) (r:Rec) (d:Tmp),R[j]?=some r→r.dst=some d→d<f.sz∧d∈dstsOf ops:=by
  intro j r d hj hd;obtain⟨o,h1,h2⟩:=dst_of hj;have hmem:d∈dstsOf ops:=List.mem_filterMap.2 ⟨o,List.mem_of_getElem? (by simpa using h1),h2▸hd⟩;exact⟨blt_true (List.all_eq_true.1 hall d hmem),hmem⟩
 have hdd:∀(i j:Nat) (r r':Rec) (d:Tmp),R[i]?=some r→R[j]?=some r'→r.dst=some d→r'.dst=some d→j=i:=by
  intro i j r r' d hi hj hd hd';obtain⟨o,h1,h2⟩:=dst_of hi;obtain⟨o',h1',h2'⟩:=dst_of hj;exact filterMap_distinct (fun o:Oper=>o.dst) hdis j i o' o d (by simpa using h1') (by simpa using h1) (h2'▸hd') (h2▸hd)
 -- what lies ahead of an operation has been carried out
 have closed:∀(S:Nat→Prop),(∀j o,ops[j]?=some o→S j→∀e∈o.after,Region.binds .any e=true→S e.on)→
   ∀(i:Nat) (r:Rec) (o:Oper),R[i]?=some r→ops[i]?=some o→(∀e∈o.after,Region.binds .any e=true→S e.on)→∀k,Nat.testBit r.anc k=true→S k:=by
  intro S hS i
  induction i using Nat.strongRecOn with
  |_ i ih=>
   intro r o hr ho hedge k hk;obtain⟨o',ho',hst⟩:=op_of hr;rw[ho]at ho';cases ho';obtain⟨hlt,_,hanc,_⟩:=stepR_parts hst;rw[hanc]at hk;obtain⟨e,he,hbe,hcase⟩:=ancOf_bit hk;have he':e∈o.after:=by simpa using he
   have hel:=hlt e he' hbe;have hei:e.on<i:=by
    rw[List.length_take]at hel;omega
   rcases hcase with rfl|⟨r',hr',hk'⟩
   ·exact hedge e he' hbe
   ·rw[List.getElem?_take,if_pos hei]at hr';obtain⟨o2,ho2,_⟩:=op_of hr';exact ih e.on hei r' o2 hr' ho2 (hS e.on o2 ho2 (hedge e he' hbe)) k hk'
 intro B W0 m a w F hF hA hr;have hsize:ops.size=R.length:=by rw[hlen];simp
 -- whatever has been listed, the rest goes through
 have key:∀(fuel:Nat) (listed:Array Bool) (a:Act) (w:World) (mS:List MB),listed.size=ops.size→(∀j o,ops[j]?=some o→listed.getD j false=true→∀e∈o.after,Region.binds .any e=true→listed.getD e.on false=true)→
   Inv B W0 m st f R (dstsOf ops) (fun j=>listed.getD j false=true) a w mS→((List.range ops.size).filter (fun j=>!listed.getD j false)).length≤fuel→
   wpAnyIn F 0 P .any ops (Post B W0 m Q) fuel listed a w:=by
  intro fuel;have fin:∀(listed:Array Bool) (a:Act) (w:World) (mS:List MB),listed.size=ops.size→Inv B W0 m st f R (dstsOf ops) (fun j=>listed.getD j false=true) a w mS→Region.ready .any ops listed=[]→Post B W0 m Q .normal a w:=by
   intro listed a w mS hsz hI hrd;have hS:∀j,j<R.length→listed.getD j false=true:=by
    intro j
    induction j using Nat.strongRecOn with
    |_ j ih=>
     intro hj;cases hl:listed.getD j false with
     |true=>rfl
     |false=>
      exfalso;have hjo:ops[j]?=some ops[j]:=Array.getElem?_eq_getElem (by omega);obtain⟨r,hr,hst⟩:=rec_of hjo;obtain⟨hlt,_⟩:=stepR_parts hst;have:j∈Region.ready .any ops listed:=mem_ready.2 ⟨by
       rw[Array.getD_eq_getD_getElem?]at hl ⊢;rw[Array.getElem?_eq_getElem (by omega)]at hl ⊢;exact hl,_,hjo,fun e he hbe=>ih e.on (by have:=hlt e he hbe;rw[List.length_take]at this;omega) (by have:=hlt e he hbe;rw[List.length_take]at this;omega)⟩
      rw[hrd]at this;cases this
   obtain⟨h1,h2⟩:=hI.all hS (fun j r d hj hd=>(hdsz j r d hj hd).1) (fun t ht=>by
    obtain⟨o,ho,hdo⟩:=List.mem_filterMap.1 ht;obtain⟨j,hj⟩:=List.mem_iff_getElem?.1 ho;obtain⟨r,hr',hst⟩:=rec_of (i:=j) (by simpa using hj);exact⟨j,r,hr',by rw[(stepR_parts hst).2.1];exact hdo⟩)
   exact⟨mS,_,_,hI.ext,h1,h2,hq⟩
  induction fuel with
  |zero=>
   intro listed a w mS hsz hcl hI hcnt;have hrd:Region.ready .any ops listed=[]:=by
    rw[List.eq_nil_iff_forall_not_mem];intro j hj;obtain⟨h1,o,ho,_⟩:=mem_ready.1 hj;have hlt:j<ops.size:=(Array.getElem?_eq_some_iff.1 ho).1;have:j∈(List.range ops.size).filter (fun j=>!listed.getD j false):=by
     rw[List.mem_filter,List.mem_range];refine⟨hlt,?_⟩;rw[Array.getD_eq_getD_getElem?,Array.getElem?_eq_getElem (by omega)]at h1 ⊢;simpa using h1
    have hnil:=List.eq_nil_of_length_eq_zero (Nat.le_zero.1 hcnt);rw[hnil]at this;cases this
   exact⟨hrd,fin listed a w mS hsz hI hrd⟩
  |succ fuel ih=>
   intro listed a w mS hsz hcl hI hcnt;refine⟨fin listed a w mS hsz hI,fun i hi=>?_⟩;obtain⟨h1,o,ho,hedge⟩:=mem_ready.1 hi;have hlt:i<ops.size:=(Array.getElem?_eq_some_iff.1 ho).1;have hun:listed.getD i false=false:=by
    rw[Array.getD_eq_getD_getElem?,Array.getElem?_eq_getElem (by omega)]at h1 ⊢;exact h1
   obtain⟨r,hri,hst⟩:=rec_of ho;obtain⟨hlts,hdst,hanc,hcase⟩:=stepR_parts hst;have hancS:=closed (fun j=>listed.getD j false=true) hcl i r o hri ho hedge;obtain⟨hT,hrel⟩:=hI.look (i:=i) (anc:=r.anc) (by omega) hancS;have hget:∀j,(listed.setIfInBounds i true).getD j false=true↔(listed.getD j false=true∨j=i):=by
    intro j;simp only[Array.getD_eq_getD_getElem?,Array.getElem?_setIfInBounds];by_cases hji:i=j
    ·subst hji;simp[hsz,hlt]
    ·rw[if_neg hji];constructor
     ·exact fun h=>.inl h
     ·rintro(h|h)
      ·exact h
      ·exact absurd h.symm hji
   have next:∀(x:Value) (m':List MB) (s2:St) (w':World),Ext (mS.take (st.length+lenR (R.take i))) m'→real m' r.v=some x→Rel w.heap.size w m' s2 w'→r.blks=(s2.drop (st.length+lenR (R.take i))).map Blk.keep→
     wpAnyIn F 0 P .any ops (Post B W0 m Q) fuel (listed.setIfInBounds i true) (a.put o.dst x) w':=by
    intro x m' s2 w' e1 e2 e3 e4;obtain⟨mN,_,_,hN⟩:=hI.step hri (by rw[hun];simp) (fun j r' d hj hd hd'=>hdd i j r r' d hri hj hd hd') (fun d hd=>hdsz i r d hri hd) e1 e2 e3 e4;rw[hdst]at hN;refine ih _ _ _ mN (by simpa using hsz) ?_ ?_ ?_
    ·intro j o' hj hl e he hbe;rw[hget]at hl ⊢;rcases hl with hl|rfl
     ·exact .inl (hcl j o' hj hl e he hbe)
     ·rw[ho]at hj;cases hj;exact .inl (hedge e he hbe)
    ·have:(fun j=>(listed.setIfInBounds i true).getD j false=true)=(fun j=>listed.getD j false=true∨j=i):=funext fun j=>propext (hget j);rw[this];exact hN
    ·have hlt2:((List.range ops.size).filter (fun j=>!(listed.setIfInBounds i true).getD j false)).length<((List.range ops.size).filter (fun j=>!listed.getD j false)).length:=by
      have hsub:(List.range ops.size).filter (fun j=>!(listed.setIfInBounds i true).getD j false)=((List.range ops.size).filter (fun j=>!listed.getD j false)).filter (fun j=>j !=i):=by
       rw[List.filter_filter];apply List.filter_congr;intro j _;by_cases h3:j=i
       ·rw[(hget j).2 (.inr h3)];subst h3;simp
       ·cases h2:listed.getD j false with
        |true=>rw[(hget j).2 (.inl h2)];simp
        |false=>
         have h1:(listed.setIfInBounds i true).getD j false=false:=by
          cases h1:(listed.setIfInBounds i true).getD j false with
          |false=>rfl
          |true=>
            rcases(hget j).1 h1 with h|h
            ·rw[h2]at h;cases h
            ·exact absurd h h3
         rw[h1];simp[h3]
      rw[hsub];have hmem:i∈(List.range ops.size).filter (fun j=>!listed.getD j false):=by rw[List.mem_filter,List.mem_range];exact⟨hlt,by rw[hun];rfl⟩
      exact List.length_filter_lt_length_iff_exists.2 ⟨i,hmem,by simp⟩
     omega
   unfold wpOpIn;rw[ho];rcases hcase with⟨hg,hv,hbl⟩|⟨hg,v,s2,hop,hrv,hbl⟩
   ·have hlen2:(R.take i).length=i:=by rw[List.length_take];omega
    simp only
    rw[if_neg (by rw[guardT_ok hT hg];simp)];refine⟨fun g _=>hF.fn g,?_⟩;refine next undef _ _ w (Ext.refl _) (by rw[hv];rfl) hrel ?_
    rw[hbl,List.drop_eq_nil_of_le (by simp[memR_len])];rfl
   ·simp only
    rw[if_pos (guardT_ok hT hg)];refine opValC_upon (ops:=ops) hc hF hT hrel hop (noDefer_spec hnd ho) ?_;intro x m' w' e1 e2 e3;exact next x m' s2 w' e1 (by rw[hrv];exact e2) e3 hbl
 refine wpIn_region_any hm (key ops.size (Array.replicate ops.size false) a _ (m++List.replicate (lenR R) hole) (by simp) ?_ ?_ ?_)
 ·intro j o hj hl;simp[Array.getD_eq_getD_getElem?,Array.getElem?_replicate]at hl;split at hl<;>simp at hl
 ·have hno:∀j,¬((Array.replicate ops.size false).getD j false=true):=by
   intro j hl;simp[Array.getD_eq_getD_getElem?,Array.getElem?_replicate]at hl;split at hl<;>simp at hl
  refine⟨by simp[hr.len],fun b e hb=>?_,hr.drew',fun j r _ hS=>absurd hS (hno j),fun j r hj _ k hk=>?_,?_,hA.tmps.1,fun j r d _ hS=>absurd hS (hno j),fun t v _ hv=>hA.tmps.2 t v hv,hA.defers⟩
  ·rw[List.getElem?_append_left (List.getElem?_eq_some_iff.1 hb).1];exact hb
  ·have h1:=lenR_take_succ hj;have h2:=lenR_take_le R (i:=j+1) (j:=R.length) (by have:=(List.getElem?_eq_some_iff.1 hj).1;omega);rw[List.take_length]at h2;rw[List.getElem?_append_right (by rw[hr.len];omega),List.getElem?_replicate,if_pos (by rw[hr.len];omega)]
  ·intro i i' b b' e e' hii hb hrw hb' hlv hi hi';rcases hb with hb|⟨j,_,_,_,hS,_⟩
   ·rcases hb' with hb'|⟨j,_,_,_,hS,_⟩
    ·have l1:=(List.getElem?_eq_some_iff.1 hb).1;have l2:=(List.getElem?_eq_some_iff.1 hb').1;rw[List.getElem?_append_left (by rw[hr.len];exact l1)]at hi;rw[List.getElem?_append_left (by rw[hr.len];exact l2)]at hi';exact hr.inj i i' b b' e e' hii hb hrw hb' hlv hi hi'
    ·exact absurd hS (hno j)
   ·exact absurd hS (hno j)
 ·have:=List.length_filter_le (fun j=>!(Array.replicate ops.size false).getD j false) (List.range ops.size);simpa using this
end
end Go.Vm
namespace Go.Vm
variable [G:Glob] [Φ:Frz]
set_option linter.unusedSectionVars false
set_option linter.unusedVariables false
open Go.RowKit
def noMemB:Op→Bool
 |.move _=>true
 |.assign _=>true
 |.pick .. =>true
 |.build .. =>true
 |.binOp .. =>true
 |.unOp .. =>true
 |.slice _ _ _ _ none=>true
 |.field .. =>true
 |.fieldAddr .. =>true
 |.index .. =>true
 |.indexAddr .. =>true
 |.extract .. =>true
 |.call {callee:=.builtin .len,..}=>true
 |_=>false
theorem noMem_eq{P:Program}{st st':St}{ρ:Operand→Option V}{op:Op}(h:noMemB op=true):pureOp P st ρ op=pureOp P st' ρ op:=by
 unfold noMemB at h;split at h<;>first|rfl|cases h
structure RE where
 r:Rec
 eff:Bool
 sen:Bool
 mem:St
 mkr:Bool:=false
 lx:Bool:=false
 blk:Option Nat:=none
def recsOf(l:List RE):List Rec:=l.map (·.r)
def subB(a b:Nat):Bool:=Nat.beq (a&&&b) a
theorem subB_bit{a b k:Nat}(h:subB a b=true)(hk:Nat.testBit a k=true):Nat.testBit b k=true:=by
 have h:=Nat.eq_of_beq_eq_true h;rw[←h,Nat.testBit_and,Bool.and_eq_true]at hk;exact hk.2
def lookB(P:Program)(op:Op):Bool:=match op with
 |.load .. =>true
 |.convert .. =>true
 |_=>false
mutual
theorem shift_flat(k:Nat):∀v:V,(v.shift k).flat=v.flat
 |.ptr _ _|.slice ..|.yield _|.map _|.bool _|.int _ _|.str _|.nilPtr|.nilSlice|.nilFunc|.nilIface|.nilMap|.gp _ _|.lst ..|.lptr ..|.nos .. =>rfl
 |.func fn fs cs=>by simp only[V.shift,V.flat,shiftL_flat k fs,shiftL_flat k cs]
 |.iface t v=>by simp only[V.shift,V.flat,shift_flat k v]
 |.agg cs=>by simp only[V.shift,V.flat,shiftL_flat k cs]
 |.tuple cs=>by simp only[V.shift,V.flat,shiftL_flat k cs]
theorem shiftL_flat(k:Nat):∀l:List V,flatL (shiftL k l)=flatL l
 |[]=>rfl
 |v::r=>by simp only[shiftL,flatL,shift_flat k v,shiftL_flat k r]
end
def pcallB(T:Nat→Option V)(op:Op)(v:V):Bool:=match op with
 |.call {callee:=.value x,args,argTypes}=>match ev T x,evL (ev T) args.toList with
  |some (.func (.func g) fs cs),some as=>flatL (fs++as++cs)&&v.flat
  |_,_=>false
 |_=>false
theorem pcall_any{P:Program}{call:Call}{T:Nat→Option V}{op:Op}{v:V}{cur cur':St}(h:opVal P call T cur op=some (v,cur'))(hp:pcallB T op v=true)(mem:St):opVal P call T mem op=some (v,mem):=by
 unfold pcallB at hp;split at hp
 ·rename_i x args ats;split at hp
  ·rename_i g fs cs as hx has;rw[Bool.and_eq_true]at hp;have he:∀m:St,effOp P m (ev T) (.call {callee:=.value x,args,argTypes:=ats})=none:=fun m=>rfl;have hq:∀m m':St,pureOp P m (ev T) (.call {callee:=.value x,args,argTypes:=ats})=pureOp P m' (ev T) (.call {callee:=.value x,args,argTypes:=ats}):=fun m m'=>by cases x<;>rfl
   unfold opVal at h ⊢;rw[hq mem cur];cases hc:pureOp P cur (ev T) (.call {callee:=.value x,args,argTypes:=ats})with
   |some u=>rw[hc]at h;cases h;rfl
   |none=>
    rw[hc]at h;simp only[he,hx,has]at h ⊢;cases hpl:plainFn P g with
    |false=>rw[hpl]at h;cases h
    |true=>
     rw[hpl,cond_true]at h;rw[cond_true];unfold doCall at h ⊢;rw[hp.1,cond_true]at h ⊢;cases hcall:call (.fn g) (fs++as++cs) []with
     |none=>rw[hcall]at h;cases h
     |some r=>
      obtain⟨u,s2⟩:=r;rw[hcall]at h;simp only at h ⊢;cases hu:u.flat with
      |true=>rw[hu,cond_true]at h;cases h;rfl
      |false=>
       rw[hu,cond_false]at h;cases h;exfalso;have:(u.shift cur.length).flat=u.flat:=shift_flat _ u;rw[this,hu]at hp;exact absurd hp.2 (by simp)
  ·cases hp
 ·cases hp
def plainO:Option V→Option V
 |some v=>bif v.plain then some v else none
 |none=>none
theorem plainO_spec{o:Option V}{v:V}(h:plainO o=some v):o=some v∧v.plain=true:=by
 unfold plainO at h;split at h
 ·rename_i u;cases hp:u.plain with
  |true=>rw[hp,cond_true]at h;cases h;exact⟨rfl,hp⟩
  |false=>rw[hp]at h;cases h
 ·cases h
def seeOp(P:Program)(call:Call)(T:Nat→Option V)(cur:St)(op:Op):Option V:=match op with
 |.call {callee:=.value x,args,argTypes}=>match ev T x,evL (ev T) args.toList with
  |some (.func (.func g) fs cs),some as=>bif flatL (fs++as++cs)then none else bif plainFn P g then plainO (lookCall call g (fs++as++cs) cur)else none
  |_,_=>none
 |_=>none
def VSpec(P:Program)(call:Call)(T:Nat→Option V)(mem:St)(op:Op)(v:V)(mem':St):Prop:=
 opVal P call T mem op=some (v,mem')∨(mem'=mem∧seeOp P call T mem op=some v)
def dstsAt(ops:Array Oper)(i:Nat):List Tmp:=ops.toList.filterMap fun o=>bif o.after.toList.any (fun e=>Region.binds .any e&&Nat.beq e.on i)then none else o.dst
def makerB:Op→Bool
 |.alloc _=>true
 |.box .. =>true
 |.makeSlice .. =>true
 |.buildSlice .. =>true
 |_=>false
def isApp(cur:St):St→Bool
 |cur'=>Nat.beq cur'.length (cur.length+1)
def loadB(T:Nat→Option V):Op→Option (TypeId×Nat×Nat)
 |.load t x=>match ev T x with
  |some (.ptr b off)=>some (t,b,off)
  |_=>none
 |_=>none
def wrB(T:Nat→Option V)(n:Nat):Op→Option Nat
 |.store _ x _=>match ev T x with
  |some (.ptr b _)=>some b
  |_=>none
 |.call {callee:=.builtin .append,args,argTypes:=_}=>match evL (ev T) args.toList with
  |some (.slice b ..::_)=>some b
  |some (.nilSlice::_)=>some n
  |_=>none
 |_=>none
def ordL(b:Nat)(anc:Nat):Nat→List RE→Bool
 |_,[]=>true
 |k,x::r=>(!(x.eff&&!x.mkr)||(Nat.testBit anc k||match x.blk with
  |some c=>!Nat.beq c b
  |none=>false))&&ordL b anc (k+1) r
theorem ordL_spec{b:Nat}{anc:Nat}:∀{l:List RE} {k:Nat},ordL b anc k l=true→∀q y,l[q]?=some y→y.eff=true→y.mkr=false→Nat.testBit anc (k+q)=true∨∃c,y.blk=some c∧c≠b
 |[],k,_,q,y,h,_,_=>by simp at h
 |x::r,k,h,q,y,hq,he,hm=>by
  simp only[ordL,Bool.and_eq_true]at h;cases q with
  |zero=>
   simp only[List.getElem?_cons_zero,Option.some.injEq]at hq;subst hq;have h1:=h.1;rw[he,hm]at h1;simp only[Bool.not_false,Bool.and_self,Bool.not_true,Bool.false_or,Bool.or_eq_true]at h1;rcases h1 with h1|h1
   ·exact .inl (by simpa using h1)
   ·split at h1
    ·rename_i c hc;exact .inr ⟨c,hc,fun e=>by subst e;simp at h1⟩
    ·cases h1
  |succ q=>
   have:=ordL_spec h.2 q y (by simpa using hq) he hm;rwa [show k+1+q=k+(q+1) by omega]at this
def ordW(w:Option Nat)(anc:Nat):Nat→List RE→Bool
 |_,[]=>true
 |k,x::r=>(!x.lx||(Nat.testBit anc k||match w,x.blk with
  |some c,some b=>!Nat.beq c b
  |_,_=>false))&&ordW w anc (k+1) r
theorem ordW_spec{w:Option Nat}{anc:Nat}:∀{l:List RE} {k:Nat},ordW w anc k l=true→∀q y,l[q]?=some y→y.lx=true→Nat.testBit anc (k+q)=true∨∃c b,w=some c∧y.blk=some b∧c≠b
 |[],k,_,q,y,h,_=>by simp at h
 |x::r,k,h,q,y,hq,he=>by
  simp only[ordW,Bool.and_eq_true]at h;cases q with
  |zero=>
   simp only[List.getElem?_cons_zero,Option.some.injEq]at hq;subst hq;have h1:=h.1;rw[he]at h1;simp only[Bool.not_true,Bool.false_or,Bool.or_eq_true]at h1;rcases h1 with h1|h1
   ·exact .inl (by simpa using h1)
   ·split at h1
    ·rename_i c b hb;exact .inr ⟨c,b,rfl,hb,fun e=>by subst e;simp at h1⟩
    ·cases h1
  |succ q=>
   have:=ordW_spec h.2 q y (by simpa using hq) he;rwa [show k+1+q=k+(q+1) by omega]at this
def ltOp(T:Nat→Option V)(n:Nat):Op→Bool
 |.call {callee:=.value x,args,argTypes:=_}=>match ev T x,evL (ev T) args.toList with
  |some (.func _ fs cs),some as=>ltL n (fs++as++cs)
  |_,_=>false
 |_=>false
def ordS(anc:Nat):Nat→List RE→Bool
 |_,[]=>true
 |k,x::r=>(Nat.testBit anc k||(!(x.sen&&!x.eff)||x.mkr))&&ordS anc (k+1) r
theorem ordS_spec{anc:Nat}:∀{l:List RE} {k:Nat},ordS anc k l=true→∀q y,l[q]?=some y→y.sen=true→y.eff=false→Nat.testBit anc (k+q)=true∨y.mkr=true
 |[],k,_,q,y,h,_,_=>by simp at h
 |x::r,k,h,q,y,hq,hs,he=>by
  simp only[ordS,Bool.and_eq_true]at h;cases q with
  |zero=>
   simp only[List.getElem?_cons_zero,Option.some.injEq]at hq;subst hq;rw[hs,he]at h;simpa using h.1
  |succ q=>
   simp only[List.getElem?_cons_succ]at hq;have:=ordS_spec h.2 q y hq hs he;rwa [show k+1+q=k+(q+1) by omega]at this
def evalE(P:Program)(call:Call)(ops:Array Oper)(f:Fr)(dsts:Nat→List Tmp):List Oper→List RE→St→Nat→Nat→Nat→Nat→Option (List RE×St)
 |[],recs,cur,_,_,_,_=>some (recs,cur)
 |o::r,recs,cur,em,sm,wm,lm=>
  bif o.after.toList.all (fun e=>!Region.binds .any e||Nat.blt e.on recs.length)then
   match guardT ops (frameR f (dsts recs.length) (ancOf (recsOf recs) o.after.toList) (recsOf recs)) o with
   |some false=>evalE P call ops f dsts r (recs++[⟨⟨o.dst,.tuple [],(ancOf (recsOf recs) o.after.toList),[]⟩,false,false,cur,false,false,none⟩]) cur em sm wm lm
   |some true=>bif noMemB o.op then
     match pureOp P cur (ev (frameR f (dsts recs.length) (ancOf (recsOf recs) o.after.toList) (recsOf recs))) o.op with
     |some v=>evalE P call ops f dsts r (recs++[⟨⟨o.dst,v,(ancOf (recsOf recs) o.after.toList),[]⟩,false,false,cur,false,false,none⟩]) cur em sm wm lm
     |none=>none
    else match loadB (frameR f (dsts recs.length) (ancOf (recsOf recs) o.after.toList) (recsOf recs)) o.op with
    |some (t,b,off)=>match loadV P cur t b off with
     |some v=>bif subB wm (ancOf (recsOf recs) o.after.toList)||ordL b (ancOf (recsOf recs) o.after.toList) 0 recs then evalE P call ops f dsts r (recs++[⟨⟨o.dst,v,(ancOf (recsOf recs) o.after.toList),[]⟩,false,false,cur,false,true,some b⟩]) cur em sm wm (lm|||1<<<recs.length)else none
     |none=>none
    |none=>bif lookB P o.op then
     match pureOp P cur (ev (frameR f (dsts recs.length) (ancOf (recsOf recs) o.after.toList) (recsOf recs))) o.op with
     |some v=>bif subB em (ancOf (recsOf recs) o.after.toList)then evalE P call ops f dsts r (recs++[⟨⟨o.dst,v,(ancOf (recsOf recs) o.after.toList),[]⟩,false,true,cur,false,false,none⟩]) cur em (sm|||1<<<recs.length) wm lm else none
     |none=>none
    else match seeOp P call (frameR f (dsts recs.length) (ancOf (recsOf recs) o.after.toList) (recsOf recs)) cur o.op with
    |some v=>bif subB em (ancOf (recsOf recs) o.after.toList)then evalE P call ops f dsts r (recs++[⟨⟨o.dst,v,(ancOf (recsOf recs) o.after.toList),[]⟩,false,true,cur,ltOp (frameR f (dsts recs.length) (ancOf (recsOf recs) o.after.toList) (recsOf recs)) cur.length o.op,false,none⟩]) cur em (sm|||1<<<recs.length) wm lm else none
    |none=>match opVal P call (frameR f (dsts recs.length) (ancOf (recsOf recs) o.after.toList) (recsOf recs)) cur o.op with
     |some (v,cur')=>bif pcallB (frameR f (dsts recs.length) (ancOf (recsOf recs) o.after.toList) (recsOf recs)) o.op v then evalE P call ops f dsts r (recs++[⟨⟨o.dst,v,(ancOf (recsOf recs) o.after.toList),[]⟩,false,false,cur,false,false,none⟩]) cur em sm wm lm
      else bif makerB o.op&&isApp cur cur' then(bif subB sm (ancOf (recsOf recs) o.after.toList)||(subB em (ancOf (recsOf recs) o.after.toList)&&ordS (ancOf (recsOf recs) o.after.toList) 0 recs)then evalE P call ops f dsts r (recs++[⟨⟨o.dst,v,(ancOf (recsOf recs) o.after.toList),[]⟩,true,true,cur,true,false,none⟩]) cur' (em|||1<<<recs.length) (sm|||1<<<recs.length) wm lm else none)
       else bif subB sm (ancOf (recsOf recs) o.after.toList)then(bif subB lm (ancOf (recsOf recs) o.after.toList)||ordW (wrB (frameR f (dsts recs.length) (ancOf (recsOf recs) o.after.toList) (recsOf recs)) cur.length o.op) (ancOf (recsOf recs) o.after.toList) 0 recs then evalE P call ops f dsts r (recs++[⟨⟨o.dst,v,(ancOf (recsOf recs) o.after.toList),[]⟩,true,true,cur,false,false,wrB (frameR f (dsts recs.length) (ancOf (recsOf recs) o.after.toList) (recsOf recs)) cur.length o.op⟩]) cur' (em|||1<<<recs.length) (sm|||1<<<recs.length) (wm|||1<<<recs.length) lm else none)else none
     |none=>none
   |none=>none
  else none
def evalDrawE(P:Program)(call:Call)(ops:Array Oper)(f:Fr)(st:St):Option (Fr×St):=
 bif (distinct (dstsOf ops)&&(dstsOf ops).all (fun d=>Nat.blt d f.sz))&&noDefer ops then
  match evalE P call ops f (dstsAt ops) ops.toList [] st 0 0 0 0 with
  |some (recs,fin)=>some (putsR f (recsOf recs),fin)
  |none=>none
 else none
section
variable {P:Program} {call:Call} {ro:Option Nat} {f:Fr} {st:St} {B:Nat} {W0 w w':World} {m:List MB}
def memAt(R:List RE)(fin:St)(j:Nat):St:=match R[j]? with
 |some x=>x.mem
 |none=>fin
theorem maker_app{T:Nat→Option V}{op:Op}{v:V}{cur cur':St}(hm:makerB op=true)(h:opVal P call T cur op=some (v,cur'))(hl:isApp cur cur'=true):∃k,cur'=cur++[k]:=by
 have hne:cur'≠cur:=by
  rintro rfl;have:=Nat.eq_of_beq_eq_true hl;omega
 unfold makerB at hm;split at hm
 ·simp only[opVal,pureOp,effOp]at h;split at h
  ·rename_i r hr;cases h;unfold allocV at hr;split at hr<;>first|(cases hr;exact⟨_,rfl⟩)|cases hr
  ·cases h
 ·simp only[opVal,pureOp,effOp]at h;split at h
  ·rename_i r hr;cases h;split at hr
   ·unfold boxV at hr;cases hr;exact⟨_,rfl⟩
   ·cases hr
  ·cases h
 ·simp only[opVal,pureOp,effOp]at h;split at h
  ·rename_i r hr;cases h;split at hr
   ·unfold makeV at hr
    (repeat' split at hr)<;>first|(cases hr;exact⟨_,rfl⟩)|cases hr
   ·cases hr
  ·cases h
 ·simp only[opVal,pureOp,effOp]at h;split at h
  ·rename_i r hr;cases h;split at hr
   ·unfold buildSliceV at hr
    (repeat' split at hr)<;>first|(cases hr;exact⟨_,rfl⟩)|(cases hr;exact absurd rfl hne)|cases hr
   ·cases hr
  ·cases h
 ·cases hm
theorem loadB_spec{T:Nat→Option V}{op:Op}{t:TypeId}{b off:Nat}(h:loadB T op=some (t,b,off)):∃x,op=.load t x∧ev T x=some (.ptr b off):=by
 unfold loadB at h;split at h
 ·rename_i t' x;split at h
  ·rename_i b' off' hx;cases h;exact⟨x,rfl,hx⟩
  ·cases h
 ·cases h
theorem store_keep{P:Program}{st s1:St}{t:TypeId}{b off:Nat}{v:V}(hs:storeV P st t (.ptr b off) v=some s1){c:Nat}(hne:c≠b):s1[c]?=st[c]?:=by
 unfold storeV at hs;split at hs
 ·rename_i hp _;cases hp;split at hs
  ·split at hs
   ·cases hs;rw[List.getElem?_set_ne (fun e=>hne e.symm)]
   ·cases hs
  ·cases hs
 ·cases hs
theorem append_keep{P:Program}{st s1:St}{t:TypeId}{s x u:V}(hs:appendV P st t s x=some (u,s1)){n:Nat}(hn:(∃off len ex c z,s=.slice n off len ex c z)∨(s=.nilSlice∧n=st.length)){c:Nat}(hne:c≠n)(hlt:c<st.length):s1[c]?=st[c]?:=by
 unfold appendV at hs;rcases hn with⟨off,len,ex,cc,z,rfl⟩|⟨rfl,rfl⟩
 ·(repeat' split at hs)<;>first|(cases hs;done)|skip
  all_goals simp only[Option.some.injEq,Prod.mk.injEq]at hs
  all_goals obtain⟨-,rfl⟩:=hs
  all_goals first|rfl|rw[List.getElem?_append_left hlt]|skip
  all_goals injections
  all_goals subst_vars
  all_goals first|rw[List.getElem?_append_left (by simpa using hlt),List.getElem?_set_ne (fun e=>hne e.symm)]|rw[List.getElem?_set_ne (fun e=>hne e.symm)]
 ·(repeat' split at hs)<;>first|(cases hs;done)|skip
  all_goals simp only[Option.some.injEq,Prod.mk.injEq]at hs
  all_goals obtain⟨-,rfl⟩:=hs
  all_goals first|rfl|rw[List.getElem?_append_left hlt]|skip
  all_goals (injections;done)
theorem wrB_same{P:Program}{call:Call}{T:Nat→Option V}{op:Op}{v:V}{cur cur':St}{c:Nat}(h:opVal P call T cur op=some (v,cur'))(hc:wrB T cur.length op=some c):∀b,b≠c→b<cur.length→cur'[b]?=cur[b]?:=by
 intro b hne hlt;unfold wrB at hc;split at hc
 ·split at hc
  ·rename_i t x y b' off hx;cases hc;simp only[opVal,pureOp,effOp,hx]at h;split at h
   ·rename_i r hr;cases h;split at hr
    ·split at hr
     ·rename_i st' hst;cases hr;rename_i pp vv hp hv _;cases hp;exact store_keep hst hne
     ·cases hr
    ·cases hr
   ·cases h
  ·cases hc
 ·rename_i args ats;have hp:pureOp P cur (ev T) (.call {callee:=.builtin .append,args,argTypes:=ats})=none:=rfl;simp only[opVal,hp]at h;split at h
  ·rename_i r hr;cases h;simp only[effOp]at hr;split at hr
   ·rename_i t t' s x h1 h2;split at hr
    ·rw[h2]at hc;split at hc
     ·rename_i b' _ _ _ _ _ _ hh;cases hc;simp only[Option.some.injEq,List.cons.injEq]at hh;exact append_keep hr (.inl ⟨_,_,_,_,_,hh.1⟩) hne hlt
     ·rename_i hh;cases hc;simp only[Option.some.injEq,List.cons.injEq]at hh;exact append_keep hr (.inr ⟨hh.1,rfl⟩) hne hlt
     ·cases hc
    ·cases hr
   ·cases hr
  ·cases h
 ·cases hc
def SpecE(P:Program)(call:Call)(ops:Array Oper)(f:Fr)(dsts:Nat→List Tmp)(R:List RE)(fin:St)(i:Nat)(o:Oper)(x:RE):Prop:=
 (∀e∈o.after,Region.binds .any e=true→e.on<i)∧x.r.dst=o.dst∧x.r.anc=ancOf (recsOf (R.take i)) o.after.toList∧
 ((guardT ops (frameR f (dsts i) x.r.anc (recsOf (R.take i))) o=some false∧x.r.v=.tuple []∧x.eff=false∧x.sen=false∧memAt R fin (i+1)=x.mem)∨
  (guardT ops (frameR f (dsts i) x.r.anc (recsOf (R.take i))) o=some true∧True∧(∀mem,opVal P call (frameR f (dsts i) x.r.anc (recsOf (R.take i))) mem o.op=some (x.r.v,mem))∧x.eff=false∧x.sen=false∧memAt R fin (i+1)=x.mem)∨
  (guardT ops (frameR f (dsts i) x.r.anc (recsOf (R.take i))) o=some true∧VSpec P call (frameR f (dsts i) x.r.anc (recsOf (R.take i))) x.mem o.op x.r.v (memAt R fin (i+1))∧x.sen=true∧(x.eff=false→memAt R fin (i+1)=x.mem)∧
    (x.eff=false→∀q y,q<i→R[q]?=some y→y.eff=true→Nat.testBit x.r.anc q=true)∧
    (x.eff=true→∀q y,q<i→R[q]?=some y→y.sen=true→Nat.testBit x.r.anc q=true∨(x.mkr=true∧y.eff=false∧y.mkr=true))∧
    (x.eff=true→x.mkr=false→∀q y,q<i→R[q]?=some y→y.lx=true→Nat.testBit x.r.anc q=true∨∃c b,x.blk=some c∧y.blk=some b∧c≠b)∧(x.eff=true→x.mkr=true→∃k,memAt R fin (i+1)=x.mem++[k])∧
    (x.eff=true→∀c,x.blk=some c→∀b,b≠c→b<x.mem.length→(memAt R fin (i+1))[b]?=x.mem[b]?)∧
    (x.eff=false→x.mkr=true→seeOp P call (frameR f (dsts i) x.r.anc (recsOf (R.take i))) x.mem o.op=some x.r.v∧ltOp (frameR f (dsts i) x.r.anc (recsOf (R.take i))) x.mem.length o.op=true))∨
  (guardT ops (frameR f (dsts i) x.r.anc (recsOf (R.take i))) o=some true∧(∃t xo b off,o.op=.load t xo∧ev (frameR f (dsts i) x.r.anc (recsOf (R.take i))) xo=some (.ptr b off)∧loadV P x.mem t b off=some x.r.v∧x.blk=some b∧∀q y,q<i→R[q]?=some y→y.eff=true→y.mkr=false→Nat.testBit x.r.anc q=true∨∃c,y.blk=some c∧c≠b)∧x.lx=true∧x.eff=false∧x.sen=false∧memAt R fin (i+1)=x.mem))
theorem bit_set{a n k:Nat}:Nat.testBit (a|||1<<<n) k=true↔(Nat.testBit a k=true∨n=k):=by
 rw[Nat.testBit_or,Nat.one_shiftLeft,Nat.testBit_two_pow];simp
theorem evalE_spec{ops:Array Oper}{dsts:Nat→List Tmp}:∀(l:List Oper) (recs:List RE) (cur:St) (em sm wm lm:Nat) (R:List RE) (fin:St),evalE P call ops f dsts l recs cur em sm wm lm=some (R,fin)→
  (∀q y,recs[q]?=some y→y.eff=true→Nat.testBit em q=true)→(∀q y,recs[q]?=some y→y.sen=true→Nat.testBit sm q=true)→(∀q y,recs[q]?=some y→(y.eff&&!y.mkr)=true→Nat.testBit wm q=true)→(∀q y,recs[q]?=some y→y.lx=true→Nat.testBit lm q=true)→
  R.take recs.length=recs∧R.length=recs.length+l.length∧memAt R fin recs.length=cur∧∀(j:Nat) (o:Oper),l[j]?=some o→∃x,R[recs.length+j]?=some x∧SpecE P call ops f dsts R fin (recs.length+j) o x
 |[],recs,cur,em,sm,wm,lm,R,fin,h,_,_,_,_=>by
  simp only[evalE,Option.some.injEq,Prod.mk.injEq]at h;obtain⟨rfl,rfl⟩:=h;refine⟨by simp,by simp,by simp[memAt],fun j o hj=>by simp at hj⟩
 |o::l,recs,cur,em,sm,wm,lm,R,fin,h,hem,hsm,hwm,hlm=>by
  simp only[evalE]at h;cases hb:o.after.toList.all (fun e=>!Region.binds .any e||Nat.blt e.on recs.length)with
  |false=>rw[hb]at h;cases h
  |true=>
  rw[hb,cond_true]at h;have hedge:∀e∈o.after,Region.binds .any e=true→e.on<recs.length:=by
   intro e he hbe;have:=List.all_eq_true.1 hb e (by simpa using he);simp only[hbe,Bool.not_true,Bool.false_or]at this;exact blt_true this
  -- one step more
  have go:∀(x:RE) (cur':St) (em' sm' wm' lm':Nat),evalE P call ops f dsts l (recs++[x]) cur' em' sm' wm' lm'=some (R,fin)→x.mem=cur→
    (∀q,Nat.testBit em q=true→Nat.testBit em' q=true)→(∀q,Nat.testBit sm q=true→Nat.testBit sm' q=true)→(∀q,Nat.testBit wm q=true→Nat.testBit wm' q=true)→(∀q,Nat.testBit lm q=true→Nat.testBit lm' q=true)→
    (x.eff=true→Nat.testBit em' recs.length=true)→(x.sen=true→Nat.testBit sm' recs.length=true)→((x.eff&&!x.mkr)=true→Nat.testBit wm' recs.length=true)→(x.lx=true→Nat.testBit lm' recs.length=true)→
    (R.take recs.length=recs→memAt R fin (recs.length+1)=cur'→SpecE P call ops f dsts R fin recs.length o x)→
    R.take recs.length=recs∧R.length=recs.length+(o::l).length∧memAt R fin recs.length=cur∧∀(j:Nat) (o':Oper),(o::l)[j]?=some o'→∃x,R[recs.length+j]?=some x∧SpecE P call ops f dsts R fin (recs.length+j) o' x:=by
   intro x cur' em' sm' wm' lm' hx hmem he1 he2 he3 he4 hf1 hf2 hf3 hf4 hspec;have ext:∀(g:RE→Bool) (mask mask':Nat),(∀q y,recs[q]?=some y→g y=true→Nat.testBit mask q=true)→(∀q,Nat.testBit mask q=true→Nat.testBit mask' q=true)→(g x=true→Nat.testBit mask' recs.length=true)→
     ∀q y,(recs++[x])[q]?=some y→g y=true→Nat.testBit mask' q=true:=by
    intro g mask mask' h1 h2 h3 q y hq hg;rcases Nat.lt_trichotomy q recs.length with hlt|heq|hgt
    ·rw[List.getElem?_append_left hlt]at hq;exact h2 q (h1 q y hq hg)
    ·subst heq;simp at hq;subst hq;exact h3 hg
    ·rw[List.getElem?_eq_none (by simp;omega)]at hq;cases hq
   obtain⟨h1,h2,h3,h4⟩:=evalE_spec l (recs++[x]) cur' em' sm' wm' lm' R fin hx (ext (·.eff) em em' hem he1 hf1) (ext (·.sen) sm sm' hsm he2 hf2) (ext (fun y=>y.eff&&!y.mkr) wm wm' hwm he3 hf3) (ext (·.lx) lm lm' hlm he4 hf4);have ht:R.take recs.length=recs:=by
    have:=congrArg (List.take recs.length) h1;rw[List.take_take,List.length_append]at this;simpa[Nat.min_eq_left]using this
   have hx':R[recs.length]?=some x:=by
    have:=congrArg (fun q:List RE=>q[recs.length]?) h1;simpa using this
   have h3:memAt R fin (recs.length+1)=cur':=by simpa using h3
   refine⟨ht,by simp at h2;simp;omega,by unfold memAt;rw[hx'];exact hmem,fun j o' hj=>?_⟩;cases j with
   |zero=>
    simp only[List.getElem?_cons_zero,Option.some.injEq]at hj;subst hj;exact⟨x,by simpa using hx',hspec ht h3⟩
   |succ j=>
    simp only[List.getElem?_cons_succ]at hj;obtain⟨r,g1,g2⟩:=h4 j o' hj;have e:(recs++[x]).length+j=recs.length+(j+1):=by simp;omega
    rw[e]at g1 g2;exact⟨r,g1,g2⟩
  have id0:∀(m:Nat) (q:Nat),Nat.testBit m q=true→Nat.testBit m q=true:=fun _ _ h=>h;have up0:∀(m:Nat) (q:Nat),Nat.testBit m q=true→Nat.testBit (m|||1<<<recs.length) q=true:=fun _ _ h=>bit_set.2 (.inl h);have at0:∀(m:Nat),Nat.testBit (m|||1<<<recs.length) recs.length=true:=fun _=>bit_set.2 (.inr rfl);have before:∀{q:Nat} {y:RE},R.take recs.length=recs→q<recs.length→R[q]?=some y→recs[q]?=some y:=by
   intro q y ht hq hy;rw[←ht,List.getElem?_take,if_pos hq];exact hy
  split at h
  ·rename_i hg;refine go _ _ _ _ _ _ h rfl (id0 _) (id0 _) (id0 _) (id0 _) (fun h=>by cases h) (fun h=>by cases h) (fun h=>by cases h) (fun h=>by cases h) fun ht hm=>?_;exact⟨hedge,rfl,by rw[ht],.inl ⟨by rw[ht];exact hg,rfl,rfl,rfl,hm⟩⟩
  ·rename_i hg;cases hn:noMemB o.op with
   |true=>
    rw[hn,cond_true]at h;split at h
    ·rename_i v hv;refine go _ _ _ _ _ _ h rfl (id0 _) (id0 _) (id0 _) (id0 _) (fun h=>by cases h) (fun h=>by cases h) (fun h=>by cases h) (fun h=>by cases h) fun ht hm=>?_;exact⟨hedge,rfl,by rw[ht],.inr (.inl ⟨by rw[ht];exact hg,trivial,fun mem=>by rw[ht];unfold opVal;rw[noMem_eq hn,hv],rfl,rfl,hm⟩)⟩
    ·cases h
   |false=>
    rw[hn,cond_false]at h;split at h
    ·rename_i t b off hld;split at h
     ·rename_i v hv;cases hs:(subB wm (ancOf (recsOf recs) o.after.toList)||ordL b (ancOf (recsOf recs) o.after.toList) 0 recs)with
      |false=>rw[hs]at h;cases h
      |true=>
       rw[hs,cond_true]at h;obtain⟨xo,hop,hxo⟩:=loadB_spec hld;refine go _ _ _ _ _ _ h rfl (id0 _) (id0 _) (id0 _) (up0 _) (fun h=>by cases h) (fun h=>by cases h) (fun h=>by cases h) (fun _=>at0 _) fun ht hm=>?_;refine⟨hedge,rfl,by rw[ht],.inr (.inr (.inr ⟨by rw[ht];exact hg,⟨t,xo,b,off,hop,by rw[ht];exact hxo,hv,rfl,fun q y hq hy hye hyk=>?_⟩,rfl,rfl,rfl,hm⟩))⟩;rw[Bool.or_eq_true]at hs;rcases hs with hs|hs
       ·exact .inl (subB_bit hs (hwm q y (before ht hq hy) (by rw[hye,hyk];rfl)))
       ·have:=ordL_spec hs q y (before ht hq hy) hye hyk;rwa [Nat.zero_add]at this
     ·cases h
    cases hk:lookB P o.op with
    |true=>
     rw[hk,cond_true]at h;split at h
     ·rename_i v hv;cases hs:subB em (ancOf (recsOf recs) o.after.toList)with
      |false=>rw[hs]at h;cases h
      |true=>
       rw[hs,cond_true]at h;refine go _ _ _ _ _ _ h rfl (id0 _) (up0 _) (id0 _) (id0 _) (fun h=>by cases h) (fun _=>at0 _) (fun h=>by cases h) (fun h=>by cases h) fun ht hm=>?_;refine⟨hedge,rfl,by rw[ht],.inr (.inr (.inl ⟨by rw[ht];exact hg,?_,rfl,fun _=>hm,?_,(fun h=>by cases h),(fun h=>by cases h),(fun h=>by cases h),(fun h=>by cases h),fun _ h=>by cases h⟩))⟩
       ·rw[ht,hm];left;unfold opVal;simp only[hv]
       ·intro _ q y hq hy hye;exact subB_bit hs (hem q y (before ht hq hy) hye)
     ·cases h
    |false=>
     rw[hk,cond_false]at h;split at h
     ·rename_i v hv;cases hs:subB em (ancOf (recsOf recs) o.after.toList)with
      |false=>rw[hs]at h;cases h
      |true=>
       rw[hs,cond_true]at h;refine go _ _ _ _ _ _ h rfl (id0 _) (up0 _) (id0 _) (id0 _) (fun h=>by cases h) (fun _=>at0 _) (fun h=>by cases h) (fun h=>by cases h) fun ht hm=>?_;refine⟨hedge,rfl,by rw[ht],.inr (.inr (.inl ⟨by rw[ht];exact hg,?_,rfl,fun _=>hm,?_,(fun h=>by cases h),(fun h=>by cases h),(fun h=>by cases h),(fun h=>by cases h),fun _ hl=>⟨by rw[ht];exact hv,by rw[ht];exact hl⟩⟩))⟩
       ·rw[ht,hm];exact .inr ⟨rfl,hv⟩
       ·intro _ q y hq hy hye;exact subB_bit hs (hem q y (before ht hq hy) hye)
     split at h
     ·rename_i v cur' hv;cases hpc:pcallB (frameR f (dsts recs.length) (ancOf (recsOf recs) o.after.toList) (recsOf recs)) o.op v with
      |true=>
       rw[hpc,cond_true]at h;refine go _ _ _ _ _ _ h rfl (id0 _) (id0 _) (id0 _) (id0 _) (fun h=>by cases h) (fun h=>by cases h) (fun h=>by cases h) (fun h=>by cases h) fun ht hm=>?_;exact⟨hedge,rfl,by rw[ht],.inr (.inl ⟨by rw[ht];exact hg,trivial,fun mem=>by rw[ht];exact pcall_any hv hpc mem,rfl,rfl,hm⟩)⟩
      |false=>
      rw[hpc,cond_false]at h;cases hmk:(makerB o.op&&isApp cur cur')with
      |true=>
       rw[hmk,cond_true]at h;rw[Bool.and_eq_true]at hmk;cases hs:(subB sm (ancOf (recsOf recs) o.after.toList)||(subB em (ancOf (recsOf recs) o.after.toList)&&ordS (ancOf (recsOf recs) o.after.toList) 0 recs))with
       |false=>rw[hs]at h;cases h
       |true=>
        rw[hs,cond_true]at h;refine go _ _ _ _ _ _ h rfl (up0 _) (up0 _) (id0 _) (id0 _) (fun _=>at0 _) (fun _=>at0 _) (fun h=>by cases h) (fun h=>by cases h) fun ht hm=>?_;refine⟨hedge,rfl,by rw[ht],.inr (.inr (.inl ⟨by rw[ht];exact hg,?_,rfl,(fun h=>by cases h),(fun h=>by cases h),?_,(fun _ h=>by cases h),(fun _ _=>?_),(fun _ c h=>by cases h),fun h=>by cases h⟩))⟩
        ·rw[ht,hm];exact .inl hv
        ·intro _ q y hq hy hye;rw[Bool.or_eq_true,Bool.and_eq_true]at hs;rcases hs with hs|⟨hs1,hs2⟩
         ·exact .inl (subB_bit hs (hsm q y (before ht hq hy) hye))
         ·cases hyf:y.eff with
          |true=>exact .inl (subB_bit hs1 (hem q y (before ht hq hy) hyf))
          |false=>
           have:=ordS_spec hs2 q y (before ht hq hy) hye hyf;rw[Nat.zero_add]at this;exact this.imp id fun h=>⟨rfl,rfl,h⟩
        ·rw[hm];exact maker_app hmk.1 hv hmk.2
      |false=>
      rw[hmk,cond_false]at h;cases hs:subB sm (ancOf (recsOf recs) o.after.toList)with
      |false=>rw[hs]at h;cases h
      |true=>
       rw[hs,cond_true]at h;cases hl:(subB lm (ancOf (recsOf recs) o.after.toList)||ordW (wrB (frameR f (dsts recs.length) (ancOf (recsOf recs) o.after.toList) (recsOf recs)) cur.length o.op) (ancOf (recsOf recs) o.after.toList) 0 recs)with
       |false=>rw[hl]at h;cases h
       |true=>
        rw[hl,cond_true]at h;refine go _ _ _ _ _ _ h rfl (up0 _) (up0 _) (up0 _) (id0 _) (fun _=>at0 _) (fun _=>at0 _) (fun _=>at0 _) (fun h=>by cases h) fun ht hm=>?_;refine⟨hedge,rfl,by rw[ht],.inr (.inr (.inl ⟨by rw[ht];exact hg,?_,rfl,(fun h=>by cases h),(fun h=>by cases h),?_,?_,(fun _ h=>by cases h),?_,fun h=>by cases h⟩))⟩
        ·rw[ht,hm];exact .inl hv
        ·intro _ q y hq hy hye;exact .inl (subB_bit hs (hsm q y (before ht hq hy) hye))
        ·intro _ _ q y hq hy hye;rw[Bool.or_eq_true]at hl;rcases hl with hl|hl
         ·exact .inl (subB_bit hl (hlm q y (before ht hq hy) hye))
         ·have:=ordW_spec hl q y (before ht hq hy) hye;rwa [Nat.zero_add]at this
        ·intro _ c hc;rw[hm];exact wrB_same hv hc
     ·cases h
  ·cases h
theorem opVal_uponG(hc:CallOk P call){n:List MB}{mem:St}{T:Nat→Option V}{a:Act}{F:Fence}{Q:Exit→Act→World→Prop}{mF:List MB}(hF:FOk mF ro F)
  (hT:∀t v,T t=some v→∃x,a.tmps[t]?=some x∧real n v=some x)(hr:Rel B W0 n mem w){o:Oper}{v:V}{s2:St}(h:opVal P call T mem o.op=some (v,s2))(hnd:∀c,o.op≠.defer c)
  {K:Act→World→Prop}(hK:∀x m' w',Ext n m'→real m' v=some x→Rel B W0 m' s2 w'→K (a.put o.dst x) w'):o.wpIn F 0 P a w K Q:=by
 have hρ:∀x v,ev T x=some v→real n v=some (a.eval x):=by
  intro x v hv;cases x with
  |tmp t=>
   obtain⟨y,h1,h2⟩:=hT t v hv;rw[h2];simp[Act.eval,Array.getD_eq_getD_getElem?,h1]
  |const c=>exact real_ofConst n hv
  |global g=>exact ev_global hv
  |func f=>simp only[ev,Option.some.injEq]at hv;subst hv;simp[real,realL,Act.eval]
 unfold opVal at h;refine⟨fun g _=>hF.fn g,?_⟩;rw[Oper.semAt_eq _ _ _ hnd];split at h
 ·rename_i v' hv;cases h;obtain⟨x,h1,h2⟩:=pureOp_ok hr hρ hv;rw[h2,Oper.uponIn_value];exact hK x n w (Ext.refl n) h1 hr
 ·split at h
  ·rename_i r hv;cases h;obtain⟨x,m',w',h1,h2,h3,h4⟩:=effOp_ok hr hρ hv;rcases h4 with h4|⟨h4,rfl⟩
   ·rw[h4,Oper.uponIn_value];exact hK x m' w' h1 h2 h3
   ·rw[h4,Oper.uponIn_skip];exact hK _ m' w' h1 h2 h3
  ·split at h
   ·rename_i x args ats ho;split at h
    ·rename_i g fs cs as hx has;cases hp:plainFn P g with
     |false=>rw[hp]at h;cases h
     |true=>
      rw[hp,cond_true]at h;have h1:=hρ _ _ hx;have h2:=evL_ok hρ has;simp only[real]at h1;split at h1
      ·rename_i rfs rcs hfs hcs;have hrun:(execOp a.eval o).run P w=.ok (.enter g (rfs++args.toList.map a.eval++rcs).toArray) w:=by
        simp only[execOp,ho,resolve,Sem.run_bind];rw[←Option.some.inj h1];simp only[Deferred.ofValue,Sem.run_pure,Result.andThen_ok,invoke];rw[run_callFunc hp];congr 2;apply Array.ext';simp
       have hcalls:=doCall_ok hc h B W0 n w _ (realL_append (realL_append hfs h2) hcs) hr;rw[hrun,Oper.uponIn_enter];refine hF.calls (hcalls.mono ?_);rintro e w' ⟨v',y,m',st',rfl,e1,e2,e3,e4⟩;cases e4;exact hK y m' w' e1 e2 e3
      ·cases h1
    ·rename_i l as hx has;have h1:=hρ _ _ hx;have h2:=evL_ok hρ has;simp only[real]at h1;split at h1
     ·rename_i e he;obtain⟨fn,tmps,assign,body,hy,hround⟩:=hc (.yld l) as mem _ h B W0 n w _ e h2 hr (at_get he);have hrun:(execOp a.eval o).run P w=.ok (.round e.blk fn tmps assign body) w:=by
       simp only[execOp,ho,resolve,Sem.run_bind];rw[←Option.some.inj h1];simp only[Deferred.ofValue,Sem.run_pure,Result.andThen_ok,invoke];have:(#[]:Array Value)++args.map a.eval=(args.toList.map a.eval).toArray:=by apply Array.ext';simp
       rw[this];exact hy
      rw[hrun,Oper.uponIn_round];refine hF.round (hround.mono ?_);rintro e' w' ⟨v',y,m',st',rfl,e1,e2,e3,e4⟩;cases e4;exact hK y m' w' e1 e2 e3
     ·cases h1
    ·cases h
   ·cases h
theorem vals_upon(hc:CallOk P call){n:List MB}{mem:St}{T:Nat→Option V}{a:Act}{F:Fence}{Q:Exit→Act→World→Prop}{mF:List MB}(hF:FOk mF ro F)
  (hT:∀t v,T t=some v→∃x,a.tmps[t]?=some x∧real n v=some x)(hr:Rel B W0 n mem w){o:Oper}{v:V}{s2:St}(h:VSpec P call T mem o.op v s2)(hnd:∀c,o.op≠.defer c)
  {K:Act→World→Prop}(hK:∀x m' w',Ext n m'→real m' v=some x→Rel B W0 m' s2 w'→K (a.put o.dst x) w'):o.wpIn F 0 P a w K Q:=by
 rcases h with h|⟨rfl,h⟩
 ·exact opVal_uponG hc hF hT hr h hnd hK
 ·have hρ:∀x v,ev T x=some v→real n v=some (a.eval x):=by
   intro x v hv;cases x with
   |tmp t=>
    obtain⟨y,h1,h2⟩:=hT t v hv;rw[h2];simp[Act.eval,Array.getD_eq_getD_getElem?,h1]
   |const c=>exact real_ofConst n hv
   |global g=>exact ev_global hv
   |func f=>simp only[ev,Option.some.injEq]at hv;subst hv;simp[real,realL,Act.eval]
  unfold seeOp at h;refine⟨fun g _=>hF.fn g,?_⟩;rw[Oper.semAt_eq _ _ _ hnd];split at h
  ·rename_i x args ats ho;split at h
   ·rename_i g fs cs as hx has;cases hfl:flatL (fs++as++cs)with
    |true=>rw[hfl]at h;cases h
    |false=>
    rw[hfl,cond_false]at h;cases hp:plainFn P g with
    |false=>rw[hp]at h;cases h
    |true=>
     rw[hp,cond_true]at h;have h1:=hρ _ _ hx;have h2:=evL_ok hρ has;simp only[real]at h1;split at h1
     ·rename_i rfs rcs hfs hcs;have hrun:(execOp a.eval o).run P w=.ok (.enter g (rfs++args.toList.map a.eval++rcs).toArray) w:=by
       simp only[execOp,ho,resolve,Sem.run_bind];rw[←Option.some.inj h1];simp only[Deferred.ofValue,Sem.run_pure,Result.andThen_ok,invoke];rw[run_callFunc hp];congr 2;apply Array.ext';simp
      obtain⟨y,e1,e2⟩:=lookCall_ok hc (plainO_spec h).1 (realL_append (realL_append hfs h2) hcs) hr;rw[hrun,Oper.uponIn_enter];refine hF.calls ((e2 B W0 w hr).mono ?_);rintro e w' ⟨rfl,e3⟩;exact hK y n w' (Ext.refl n) e1 e3
     ·cases h1
   ·cases h
  ·cases h
theorem pure_upon{n:List MB}{mem:St}{T:Nat→Option V}{a:Act}{F:Fence}{Q:Exit→Act→World→Prop}{mF:List MB}(hF:FOk mF ro F)
  (hT:∀t v,T t=some v→∃x,a.tmps[t]?=some x∧real n v=some x)(hr:Rel B W0 n mem w){o:Oper}{v:V}(h:pureOp P mem (ev T) o.op=some v)(hnd:∀c,o.op≠.defer c)
  {K:Act→World→Prop}(hK:∀x,real n v=some x→K (a.put o.dst x) w):o.wpIn F 0 P a w K Q:=by
 have hρ:∀x v,ev T x=some v→real n v=some (a.eval x):=by
  intro x v hv;cases x with
  |tmp t=>
   obtain⟨y,h1,h2⟩:=hT t v hv;rw[h2];simp[Act.eval,Array.getD_eq_getD_getElem?,h1]
  |const c=>exact real_ofConst n hv
  |global g=>exact ev_global hv
  |func f=>simp only[ev,Option.some.injEq]at hv;subst hv;simp[real,realL,Act.eval]
 refine⟨fun g _=>hF.fn g,?_⟩;rw[Oper.semAt_eq _ _ _ hnd];obtain⟨x,h1,h2⟩:=pureOp_ok hr hρ h;rw[h2,Oper.uponIn_value];exact hK x h1
theorem BlkOk.back{B B0:Nat}{m m2 m3:List MB}{w w':World}{e e0:MB}{c:Blk}(h:BlkOk B m2 w' e c)(h0:BlkOk B0 m w e0 c)(h2:AExt m m2)(h3:AExt m m3):BlkOk B m3 w' e c:=by
 cases c with
 |dead=>trivial
 |ro own cs=>
  obtain⟨a1,arr,t,fz,a2,a3⟩:=h;obtain⟨_,arr0,t0,fz0,_,b3⟩:=h0;refine⟨a1,arr,t,fz,a2,fun i v hv=>?_⟩;obtain⟨x,hx,hy⟩:=a3 i v hv;obtain⟨x0,hx0,_⟩:=b3 i v hv;have:=real_amono h2 v x0 hx0;rw[hx]at this;cases this;exact⟨x,real_amono h3 v x hx0,hy⟩
 |row cs t sz=>
  obtain⟨a1,a2,arr,xs,a3,a4,a5⟩:=h;obtain⟨_,_,arr0,xs0,_,b4,_⟩:=h0;have:=realL_amono h2 cs xs0 b4;rw[a4]at this;cases this;exact⟨a1,a2,arr,xs,a3,realL_amono h3 cs xs b4,a5⟩
 |defd=>exact h
 |mpu=>exact h
 |mp cs=>
  obtain⟨a1,es,c,xs,a2,a3,a4⟩:=h;obtain⟨_,es0,c0,xs0,_,b3,_⟩:=h0;have:=realL_amono h2 cs xs0 b3;rw[a3]at this;cases this;exact⟨a1,es,c,xs,a2,realL_amono h3 cs xs b3,a4⟩
 |sit s pos=>exact h
 |loop=>
  obtain⟨a1,fn,tmps,d,a2,a3,a4⟩:=h;obtain⟨_,fn0,tmps0,d0,b2,_,b4⟩:=h0;have:=h2 _ _ b2;rw[a2]at this;cases this;refine⟨a1,fn,tmps,d,h3 _ _ b2,a3,a4.1,fun t v hv=>?_⟩;obtain⟨x,hx,hy⟩:=a4.2 t v hv;obtain⟨x0,_,hy0⟩:=b4.2 t v hv;have:=real_amono h2 v x0 hy0;rw[hy]at this;cases this;exact⟨x,hx,real_amono h3 v x hy0⟩
theorem Rel.kept{B:Nat}{W0 w w':World}{mi m':List MB}{st M:St}(h:Rel B W0 mi st w)(h':Rel B W0 m' M w')(he:Ext mi m')(hM:∀b,b<st.length→M[b]?=st[b]?):Rel B W0 mi st w':=by
 have up:∀{i:Nat} {b:Blk},st[i]?=some b→M[i]?=some b:=fun{i b} hi=>(hM i (List.getElem?_eq_some_iff.1 hi).1).trans hi;exact⟨h.len,h'.base,h'.below,fun i b e hi he'=>BlkOk.back (h'.blk i b e (up hi) (he i e he')) (h.blk i b e hi he') he.a (fun _ _ h=>h),
  fun i j b c d e hij h1 h2 h3 h4 h5 h6=>h'.inj i j b c d e hij (up h1) h2 (up h3) h4 (he i d h5) (he j e h6),h'.glob⟩
theorem see_upon(hc:CallOk P call){mi mS:List MB}{mem:St}{T:Nat→Option V}{a:Act}{F:Fence}{Q:Exit→Act→World→Prop}{mF:List MB}(hF:FOk mF ro F)
  (hT:∀t v,T t=some v→∃x,a.tmps[t]?=some x∧real mS v=some x)(hx:Ext mi mS)(hr:Rel B W0 mi mem w){o:Oper}{v:V}(h:seeOp P call T mem o.op=some v)(hl:ltOp T mem.length o.op=true)(hnd:∀c,o.op≠.defer c)
  {K:Act→World→Prop}(hK:∀x w',real mS v=some x→Below w.heap.size w w'→GOk w'.heap.size w'→K (a.put o.dst x) w'):o.wpIn F 0 P a w K Q:=by
 have hρ:∀x v,ev T x=some v→real mS v=some (a.eval x):=by
  intro x v hv;cases x with
  |tmp t=>
   obtain⟨y,h1,h2⟩:=hT t v hv;rw[h2];simp[Act.eval,Array.getD_eq_getD_getElem?,h1]
  |const c=>exact real_ofConst mS hv
  |global g=>exact ev_global hv
  |func f=>simp only[ev,Option.some.injEq]at hv;subst hv;simp[real,realL,Act.eval]
 unfold seeOp at h;refine⟨fun g _=>hF.fn g,?_⟩;rw[Oper.semAt_eq _ _ _ hnd];split at h
 ·rename_i x args ats ho;split at h
  ·rename_i g fs cs as hxx has;have hlt:ltL mi.length (fs++as++cs)=true:=by
    rw[ho]at hl;simp only[ltOp,hxx,has]at hl;rw[hr.len];exact hl
   cases hfl:flatL (fs++as++cs)with
   |true=>rw[hfl]at h;cases h
   |false=>
   rw[hfl,cond_false]at h;cases hp:plainFn P g with
   |false=>rw[hp]at h;cases h
   |true=>
    rw[hp,cond_true]at h;have h1:=hρ _ _ hxx;have h2:=evL_ok hρ has;simp only[real]at h1;split at h1
    ·rename_i rfs rcs hfs hcs;have hrun:(execOp a.eval o).run P w=.ok (.enter g (rfs++args.toList.map a.eval++rcs).toArray) w:=by
      simp only[execOp,ho,resolve,Sem.run_bind];rw[←Option.some.inj h1];simp only[Deferred.ofValue,Sem.run_pure,Result.andThen_ok,invoke];rw[run_callFunc hp];congr 2;apply Array.ext';simp
     obtain⟨y,e1,e2⟩:=lookCall_below hc (plainO_spec h).1 (plainO_spec h).2 (realL_lt hx _ _ hlt (realL_append (realL_append hfs h2) hcs));rw[hrun,Oper.uponIn_enter];refine hF.calls ((e2 B W0 w hr).mono ?_);rintro e w' ⟨rfl,e3,e4⟩;exact hK y w' (e1 mS) e3 e4
    ·cases h1
  ·cases h
 ·cases h
structure InvE (B:Nat) (W0:World) (m:List MB) (f:Fr) (R:List RE) (fin:St) (S:Nat→Prop) (a:Act) (w:World) (mS:List MB):Prop where
 ext:Ext m mS
 cut:∀j,j≤R.length→(∀q y,R[q]?=some y→y.eff=true→(S q↔q<j))→Rel B W0 mS (memAt R fin j) w
 size:a.tmps.size=f.sz
 done:∀j x d,R[j]?=some x→S j→x.r.dst=some d→∃y,a.tmps[d]?=some y∧real mS x.r.v=some y
 rest:∀t v,(∀j x,R[j]?=some x→S j→x.r.dst≠some t)→f.T.get t=some v→∃x,a.tmps[t]?=some x∧real mS v=some x
 defs:DOk mS f.defs a.defers
 gok:GOk w.heap.size w
 sees:∀i x,R[i]?=some x→¬S i→x.sen=true→x.eff=false→(∀q z,R[q]?=some z→z.eff=true→q<i→S q)→∃mi,Ext mi mS∧Rel B W0 mi x.mem w
theorem frameR_look{dsts:List Tmp}{anc:Nat}{recs:List Rec}{t:Nat}{v:V}(h:frameR f dsts anc recs t=some v):
  (∃j r,recs[j]?=some r∧r.dst=some t∧Nat.testBit anc j=true∧v=r.v)∨(t∉dsts∧f.T.get t=some v):=by
 unfold frameR at h;cases hb:dsts.any (Nat.beq t)with
 |true=>
  rw[hb,cond_true]at h;obtain⟨j,r,h1,h2,h3,h4⟩:=tmpR_get anc t recs 0 v h;exact .inl ⟨j,r,h1,h2,by simpa using h3,h4⟩
 |false=>
  rw[hb,cond_false]at h;refine .inr ⟨fun hm=>?_,h⟩;have:=List.any_eq_false.1 hb t hm;exact this (Nat.beq_refl t)
theorem memAt_const{R:List RE}{fin:St}(hconst:∀i x,R[i]?=some x→x.eff=false→memAt R fin (i+1)=memAt R fin i){j:Nat}:∀(n:Nat),j+n≤R.length→(∀q x,R[q]?=some x→x.eff=true→¬(j≤q∧q<j+n))→memAt R fin (j+n)=memAt R fin j
 |0,_,_=>rfl
 |n+1,hl,hn=>by
  have h1:=memAt_const hconst n (by omega) fun q x hx he hq=>hn q x hx he ⟨hq.1,by omega⟩;obtain⟨x,hx⟩:∃x,R[j+n]?=some x:=⟨_,List.getElem?_eq_getElem (by omega)⟩;have he:x.eff=false:=by
   cases he:x.eff with
   |false=>rfl
   |true=>exact absurd ⟨by omega,by omega⟩ (hn _ x hx he)
  rw[←h1];exact hconst (j+n) x hx he
theorem memAt_app{R:List RE}{fin:St}(hconst:∀i x,R[i]?=some x→x.eff=false→memAt R fin (i+1)=memAt R fin i)(happ:∀i x,R[i]?=some x→x.eff=true→x.mkr=true→∃k,memAt R fin (i+1)=memAt R fin i++[k]){j:Nat}:∀(n:Nat),j+n≤R.length→(∀q x,R[q]?=some x→j≤q→q<j+n→x.eff=true→x.mkr=true)→∃s,memAt R fin (j+n)=memAt R fin j++s
 |0,_,_=>⟨[],by simp⟩
 |n+1,hl,hn=>by
  obtain⟨s,hs⟩:=memAt_app hconst happ n (by omega) fun q x hx h1 h2 he=>hn q x hx h1 (by omega) he;obtain⟨x,hx⟩:∃x,R[j+n]?=some x:=⟨_,List.getElem?_eq_getElem (by omega)⟩;cases he:x.eff with
  |false=>
   have:=hconst (j+n) x hx he;exact⟨s,by rw[←Nat.add_assoc,this,hs]⟩
  |true=>
   obtain⟨k,hk⟩:=happ (j+n) x hx he (hn _ x hx (by omega) (by omega) he);exact⟨s++[k],by rw[←Nat.add_assoc,hk,hs,List.append_assoc]⟩
theorem memAt_keep{R:List RE}{fin:St}(hconst:∀i x,R[i]?=some x→x.eff=false→memAt R fin (i+1)=memAt R fin i){b j:Nat}(hb:b<(memAt R fin j).length):∀(n:Nat),j+n≤R.length→(∀q x,R[q]?=some x→j≤q→q<j+n→x.eff=true→b<(memAt R fin q).length→(memAt R fin (q+1))[b]?=(memAt R fin q)[b]?)→(memAt R fin (j+n))[b]?=(memAt R fin j)[b]?
 |0,_,_=>rfl
 |n+1,hl,hn=>by
  have h1:=memAt_keep hconst hb n (by omega) fun q x hx h1 h2 he=>hn q x hx h1 (by omega) he;obtain⟨x,hx⟩:∃x,R[j+n]?=some x:=⟨_,List.getElem?_eq_getElem (by omega)⟩;cases he:x.eff with
  |false=>
   have:=hconst (j+n) x hx he;rw[←Nat.add_assoc,this];exact h1
  |true=>
   have hlt:b<(memAt R fin (j+n)).length:=by
    rw[List.getElem?_eq_getElem hb]at h1;exact(List.getElem?_eq_some_iff.1 h1).1
   rw[←h1,←Nat.add_assoc];exact hn _ x hx (by omega) (by omega) he hlt
theorem first_cut{R:List RE}{S:Nat→Prop}:∀(n:Nat),n≤R.length→∃j,j≤n∧(∀q z,R[q]?=some z→z.eff=true→q<j→S q)∧(j=n∨∃z,R[j]?=some z∧z.eff=true∧¬S j)
 |0,_=>⟨0,Nat.le_refl _,fun q z _ _ h=>by omega,.inl rfl⟩
 |n+1,hn=>by
  obtain⟨j,h1,h2,h3⟩:=first_cut (R:=R) (S:=S) n (by omega);rcases h3 with rfl|h3
  ·obtain⟨x,hx⟩:∃x,R[j]?=some x:=⟨_,List.getElem?_eq_getElem (l:=R) (i:=j) (by omega)⟩;by_cases hb:x.eff=true∧¬S j
   ·exact⟨j,by omega,h2,.inr ⟨x,hx,hb.1,hb.2⟩⟩
   ·refine⟨j+1,Nat.le_refl _,fun q z hq hz hlt=>?_,.inl rfl⟩;rcases Nat.lt_or_ge q j with h|h
    ·exact h2 q z hq hz h
    ·have:q=j:=by omega
     subst this;rw[hx]at hq;cases hq;exact Classical.byContradiction fun hS=>hb ⟨hz,hS⟩
  ·exact⟨j,by omega,h2,.inr h3⟩
theorem InvE.step{R:List RE}{fin:St}{S:Nat→Prop}{a:Act}{mS m':List MB}(hI:InvE B W0 m f R fin S a w mS){i:Nat}{x:RE}(hi:R[i]?=some x)
  (hdis:∀(j:Nat) (x':RE) (d:Tmp),R[j]?=some x'→x.r.dst=some d→x'.r.dst=some d→j=i)(hds:∀d,x.r.dst=some d→d<f.sz){y:Value}(he:Ext mS m')(hy:real m' x.r.v=some y)
  (hcut:∀j,j≤R.length→(∀q z,R[q]?=some z→z.eff=true→((S q∨q=i)↔q<j))→Rel B W0 m' (memAt R fin j) w')(hgw:GOk w'.heap.size w')(hun:¬S i)
  (hconst:∀i x,R[i]?=some x→x.eff=false→memAt R fin (i+1)=memAt R fin i)(happ:∀i x,R[i]?=some x→x.eff=true→x.mkr=true→∃k,memAt R fin (i+1)=memAt R fin i++[k])
  (hE0:∀q r zq zr,R[q]?=some zq→R[r]?=some zr→zq.eff=true→zr.eff=true→q<r→S r→S q)(hE:∀q r zq zr,R[q]?=some zq→R[r]?=some zr→zq.eff=true→zr.eff=true→q<r→(S r∨r=i)→(S q∨q=i))
  (hN:∀k r zk zr,R[k]?=some zk→R[r]?=some zr→zk.sen=true→zr.eff=true→zr.mkr=false→k<r→(S r∨r=i)→(S k∨k=i)):
  InvE B W0 m f R fin (fun j=>S j∨j=i) (a.put x.r.dst y) w' m':=by
 have hsz:(a.put x.r.dst y).tmps.size=f.sz:=by
  rw[←hI.size];cases x.r.dst<;>simp[Act.put]
 refine⟨hI.ext.trans he,hcut,hsz,fun j x' d hj hS hd=>?_,fun t v ht hv=>?_,?_,hgw,fun k xk hk hnS hsen heff hall=>?_⟩
 ·cases hdd:x.r.dst with
  |none=>
   rcases hS with hS|rfl
   ·obtain⟨z,h1,h2⟩:=hI.done j x' d hj hS hd;exact⟨z,by simpa[Act.put]using h1,real_mono he _ _ h2⟩
   ·rw[hi]at hj;cases hj;rw[hdd]at hd;cases hd
  |some d'=>
   have hlt:=hds d' hdd;by_cases hq:d=d'
   ·subst hq;have hji:=hdis j x' d hj hdd hd;subst hji;rw[hi]at hj;cases hj;exact⟨y,by simp[Act.put,hI.size,hlt],hy⟩
   ·rcases hS with hS|rfl
    ·obtain⟨z,h1,h2⟩:=hI.done j x' d hj hS hd;exact⟨z,by simp only[Act.put];rw[Array.getElem?_setIfInBounds,if_neg (by intro h;exact hq h.symm)];exact h1,real_mono he _ _ h2⟩
    ·rw[hi]at hj;cases hj;rw[hdd]at hd;cases hd;exact absurd rfl hq
 ·obtain⟨z,h1,h2⟩:=hI.rest t v (fun j x' hj hS=>ht j x' hj (.inl hS)) hv;refine⟨z,?_,real_mono he _ _ h2⟩;cases hdd:x.r.dst with
  |none=>simpa[Act.put]using h1
  |some d'=>
   have hne:d'≠t:=by rintro rfl;exact ht i x hi (.inr rfl) hdd
   simp only[Act.put];rw[Array.getElem?_setIfInBounds,if_neg hne];exact h1
 ·have:=hI.defs.mono he;cases x.r.dst<;>simpa[Act.put]using this
 ·have hkm:memAt R fin k=xk.mem:=by unfold memAt;rw[hk]
  have hkl:k<R.length:=(List.getElem?_eq_some_iff.1 hk).1;have mkr_of:∀r z,R[r]?=some z→z.eff=true→k<r→(S r∨r=i)→z.mkr=true:=fun r z hr hz hlt hS=>by
   cases hm:z.mkr with
   |true=>rfl
   |false=>exact absurd (hN k r xk z hk hr hsen hz hm hlt hS) hnS
  have nek:∀q z,R[q]?=some z→z.eff=true→q≠k:=by rintro q z hq hz rfl;rw[hk]at hq;cases hq;rw[heff]at hz;cases hz
  by_cases hik:x.eff=true∧i<k
  ·refine⟨m',Ext.refl _,?_⟩;rw[←hkm];refine hcut k (by omega) fun q z hq hz=>⟨fun hS=>?_,fun hlt=>hall q z hq hz hlt⟩;rcases Nat.lt_or_ge q k with h|h
   ·exact h
   ·exfalso;have hqk:=nek q z hq hz;rcases hS with hS|rfl
    ·exact hun (hE0 i q x z hi hq hik.1 hz (by omega) hS)
    ·omega
  ·have hold:∀q z,R[q]?=some z→z.eff=true→q<k→S q:=fun q z hq hz hlt=>(hall q z hq hz hlt).resolve_right fun e=>hik (by subst e;rw[hi]at hq;cases hq;exact⟨hz,hlt⟩);obtain⟨mk,e1,r1⟩:=hI.sees k xk hk (fun h=>hnS (.inl h)) hsen heff hold;refine⟨mk,e1.trans he,?_⟩;obtain⟨j,hjl,hj1,hj2⟩:=first_cut (R:=R) (S:=fun q=>S q∨q=i) R.length (Nat.le_refl _);have hcutj:∀q z,R[q]?=some z→z.eff=true→((S q∨q=i)↔q<j):=by
    intro q z hq hz;refine⟨fun hS=>?_,hj1 q z hq hz⟩;rcases hj2 with rfl|⟨zj,hzj,hej,hnj⟩
    ·exact(List.getElem?_eq_some_iff.1 hq).1
    ·rcases Nat.lt_trichotomy q j with h|h|h
     ·exact h
     ·subst h;exact absurd hS hnj
     ·exact absurd (hE j q zj z hzj hq hej hz h hS) hnj
   refine r1.kept (hcut j hjl hcutj) (e1.trans he) fun b hb=>?_;rcases Nat.le_total k j with hkj|hjk
   ·obtain⟨s,hs⟩:=memAt_app hconst happ (j:=k) (j-k) (by omega) fun q z hq h1 h2 hz=>by
     have:=nek q z hq hz;exact mkr_of q z hq hz (by omega) ((hcutj q z hq hz).2 (by omega))
    rw[show k+(j-k)=j by omega,hkm]at hs;rw[hs,List.getElem?_append_left hb]
   ·have:=memAt_const hconst (j:=j) (k-j) (by omega) fun q z hq hz hb2=>by
     have:=(hcutj q z hq hz).1 (hall q z hq hz (by omega));omega
    rw[show j+(k-j)=k by omega,hkm]at this;rw[this]
theorem sat_draw_eff{id:Nat}{ops:Array Oper}{Q:Exit→Fr→St→Prop}(hm:P.follows .mixedOrders=true)(hc:CallOk P call){f':Fr}{st':St}(h:evalDrawE P call ops f st=some (f',st'))(hq:Q .normal f' st'):
  CodeSat P ro (.region id ops true) f st Q:=by
 unfold evalDrawE at h;cases hb:((distinct (dstsOf ops)&&(dstsOf ops).all (fun d=>Nat.blt d f.sz))&&noDefer ops)with
 |false=>rw[hb]at h;cases h
 |true=>
 rw[hb,cond_true]at h;simp only[Bool.and_eq_true]at hb;obtain⟨⟨hdis,hall⟩,hnd⟩:=hb;split at h
 case h_2=>cases h
 rename_i R fin hR;cases h;obtain⟨_,hlen,hmem0,hspec⟩:=evalE_spec ops.toList [] st 0 0 0 0 R st' hR (fun q y h=>by simp at h) (fun q y h=>by simp at h) (fun q y h=>by simp at h) (fun q y h=>by simp at h);simp only[List.length_nil,Nat.zero_add]at hlen hspec hmem0;have rec_of:∀{i:Nat} {o:Oper},ops[i]?=some o→∃x,R[i]?=some x∧SpecE P call ops f (dstsAt ops) R st' i o x:=fun ho=>hspec _ _ (by simpa using ho);have op_of:∀{i:Nat} {x:RE},R[i]?=some x→∃o,ops[i]?=some o∧SpecE P call ops f (dstsAt ops) R st' i o x:=by
  intro i x hr;have hi:i<ops.toList.length:=hlen▸(List.getElem?_eq_some_iff.1 hr).1;have ho:ops.toList[i]?=some ops.toList[i]:=List.getElem?_eq_getElem hi;obtain⟨r',h1,h2⟩:=hspec i _ ho;rw[hr]at h1;cases h1;exact⟨_,by simp,h2⟩
 have hdsz:∀(j:Nat) (x:RE) (d:Tmp),R[j]?=some x→x.r.dst=some d→d<f.sz∧d∈dstsOf ops:=by
  intro j x d hj hd;obtain⟨o,h1,h2⟩:=op_of hj;have hmem:d∈dstsOf ops:=List.mem_filterMap.2 ⟨o,List.mem_of_getElem? (by simpa using h1),h2.2.1▸hd⟩;exact⟨blt_true (List.all_eq_true.1 hall d hmem),hmem⟩
 have hdd:∀(i j:Nat) (x x':RE) (d:Tmp),R[i]?=some x→R[j]?=some x'→x.r.dst=some d→x'.r.dst=some d→j=i:=by
  intro i j r r' d hi hj hd hd';obtain⟨o,h1,h2⟩:=op_of hi;obtain⟨o',h1',h2'⟩:=op_of hj;exact filterMap_distinct (fun o:Oper=>o.dst) hdis j i o' o d (by simpa using h1') (by simpa using h1) (h2'.2.1▸hd') (h2.2.1▸hd)
 have hconst:∀i x,R[i]?=some x→x.eff=false→memAt R st' (i+1)=memAt R st' i:=by
  intro i x hx he;obtain⟨o,ho,hs⟩:=op_of hx;have e:memAt R st' i=x.mem:=by unfold memAt;rw[hx]
  rw[e];rcases hs.2.2.2 with⟨_,_,_,_,h5⟩|⟨_,_,_,_,_,h6⟩|⟨_,_,_,h4,_⟩|⟨_,_,_,_,_,h5⟩
  ·exact h5
  ·exact h6
  ·exact h4 he
  ·exact h5
 have hkeep:∀i x,R[i]?=some x→x.eff=true→∀c,x.blk=some c→∀b,b≠c→b<(memAt R st' i).length→(memAt R st' (i+1))[b]?=(memAt R st' i)[b]?:=by
  intro i x hx he;obtain⟨o,ho,hs⟩:=op_of hx;have e:memAt R st' i=x.mem:=by unfold memAt;rw[hx]
  rw[e];rcases hs.2.2.2 with⟨_,_,h3,_⟩|⟨_,_,_,h3,_⟩|⟨_,_,_,_,_,_,_,_,h9⟩|⟨_,_,_,h3,_⟩
  ·rw[h3]at he;cases he
  ·rw[h3]at he;cases he
  ·exact h9.1 he
  ·rw[h3]at he;cases he
 have happ:∀i x,R[i]?=some x→x.eff=true→x.mkr=true→∃k,memAt R st' (i+1)=memAt R st' i++[k]:=by
  intro i x hx he hk;obtain⟨o,ho,hs⟩:=op_of hx;have e:memAt R st' i=x.mem:=by unfold memAt;rw[hx]
  rw[e];rcases hs.2.2.2 with⟨_,_,h3,_⟩|⟨_,_,_,h3,_⟩|⟨_,_,_,_,_,_,_,h8,_⟩|⟨_,_,_,h3,_⟩
  ·rw[h3]at he;cases he
  ·rw[h3]at he;cases he
  ·exact h8 he hk
  ·rw[h3]at he;cases he
 -- what lies ahead of an operation has been carried out
 have closed:∀(S:Nat→Prop),(∀j o,ops[j]?=some o→S j→∀e∈o.after,Region.binds .any e=true→S e.on)→
   ∀(i:Nat) (x:RE) (o:Oper),R[i]?=some x→ops[i]?=some o→(∀e∈o.after,Region.binds .any e=true→S e.on)→∀k,Nat.testBit x.r.anc k=true→S k:=by
  intro S hS i
  induction i using Nat.strongRecOn with
  |_ i ih=>
   intro x o hr ho hedge k hk;obtain⟨o',ho',hlt,_,hanc,_⟩:=op_of hr;rw[ho]at ho';cases ho';rw[hanc]at hk;obtain⟨e,he,hbe,hcase⟩:=ancOf_bit hk;have he':e∈o.after:=by simpa using he
   have hei:=hlt e he' hbe;rcases hcase with rfl|⟨r',hr',hk'⟩
   ·exact hedge e he' hbe
   ·unfold recsOf at hr';rw[List.getElem?_map,List.getElem?_take,if_pos hei]at hr';cases hre:R[e.on]? with
    |none=>rw[hre]at hr';cases hr'
    |some y=>
     rw[hre]at hr';simp only[Option.map_some,Option.some.injEq]at hr';subst hr';obtain⟨o2,ho2,_⟩:=op_of hre;exact ih e.on hei y o2 hre ho2 (hS e.on o2 ho2 (hedge e he' hbe)) k hk'
 have effsen:∀(q:Nat) (y:RE),R[q]?=some y→y.eff=true→y.sen=true:=by
  intro q z hq hz;obtain⟨oq,hoq,hsq⟩:=op_of hq;rcases hsq.2.2.2 with⟨_,_,h3,_⟩|⟨_,_,_,h3,_⟩|⟨_,_,h3,_⟩|⟨_,_,_,h3,_⟩
  ·rw[h3]at hz;cases hz
  ·rw[h3]at hz;cases hz
  ·exact h3
  ·rw[h3]at hz;cases hz
 -- of one that changes, what it waits for
 have sixth:∀{q:Nat} {z:RE},R[q]?=some z→z.eff=true→∀k y,k<q→R[k]?=some y→y.sen=true→Nat.testBit z.r.anc k=true∨(z.mkr=true∧y.eff=false∧y.mkr=true):=by
  intro q z hq hz;obtain⟨oq,hoq,hsq⟩:=op_of hq;rcases hsq.2.2.2 with⟨_,_,h3,_⟩|⟨_,_,_,h3,_⟩|⟨_,_,_,_,_,h6,_⟩|⟨_,_,_,h3,_⟩
  ·rw[h3]at hz;cases hz
  ·rw[h3]at hz;cases hz
  ·exact h6 hz
  ·rw[h3]at hz;cases hz
 have effDown:∀(S:Nat→Prop),(∀j o,ops[j]?=some o→S j→∀e∈o.after,Region.binds .any e=true→S e.on)→∀q r zq zr,R[q]?=some zq→R[r]?=some zr→zq.eff=true→zr.eff=true→q<r→S r→S q:=by
  intro S hS q r zq zr hq hr hqe hre hlt hSr;obtain⟨o,ho,_⟩:=op_of hr;rcases sixth hr hre q zq hlt hq (effsen q zq hq hqe)with h|⟨_,h,_⟩
  ·exact closed S hS r zr o hr ho (hS r o ho hSr) q h
  ·rw[hqe]at h;cases h
 have senDown:∀(S:Nat→Prop),(∀j o,ops[j]?=some o→S j→∀e∈o.after,Region.binds .any e=true→S e.on)→∀k r zk zr,R[k]?=some zk→R[r]?=some zr→zk.sen=true→zr.eff=true→zr.mkr=false→k<r→S r→S k:=by
  intro S hS k r zk zr hk hr hks hre hrm hlt hSr;obtain⟨o,ho,_⟩:=op_of hr;rcases sixth hr hre k zk hlt hk hks with h|⟨h,_⟩
  ·exact closed S hS r zr o hr ho (hS r o ho hSr) k h
  ·rw[hrm]at h;cases h
 intro B W0 m a w F hF hA hr;have hsize:ops.size=R.length:=by rw[hlen];simp
 have key:∀(fuel:Nat) (listed:Array Bool) (a:Act) (w:World) (mS:List MB),listed.size=ops.size→(∀j o,ops[j]?=some o→listed.getD j false=true→∀e∈o.after,Region.binds .any e=true→listed.getD e.on false=true)→
   InvE B W0 m f R st' (fun j=>listed.getD j false=true) a w mS→((List.range ops.size).filter (fun j=>!listed.getD j false)).length≤fuel→
   wpAnyIn F 0 P .any ops (Post B W0 m Q) fuel listed a w:=by
  intro fuel;have fin:∀(listed:Array Bool) (a:Act) (w:World) (mS:List MB),listed.size=ops.size→InvE B W0 m f R st' (fun j=>listed.getD j false=true) a w mS→Region.ready .any ops listed=[]→Post B W0 m Q .normal a w:=by
   intro listed a w mS hsz hI hrd;have hS:∀j,j<R.length→listed.getD j false=true:=by
    intro j
    induction j using Nat.strongRecOn with
    |_ j ih=>
     intro hj;cases hl:listed.getD j false with
     |true=>rfl
     |false=>
      exfalso;have hjo:ops[j]?=some ops[j]:=Array.getElem?_eq_getElem (by omega);obtain⟨r,hr,hlt,_⟩:=rec_of hjo;have:j∈Region.ready .any ops listed:=mem_ready.2 ⟨by
       rw[Array.getD_eq_getD_getElem?]at hl ⊢;rw[Array.getElem?_eq_getElem (by omega)]at hl ⊢;exact hl,_,hjo,fun e he hbe=>ih e.on (hlt e he hbe) (by have:=hlt e he hbe;omega)⟩
      rw[hrd]at this;cases this
   have hds:∀t,t∈dstsOf ops→∃(j:Nat) (x:RE),R[j]?=some x∧x.r.dst=some t:=by
    intro t ht;obtain⟨o,ho,hdo⟩:=List.mem_filterMap.1 ht;obtain⟨j,hj⟩:=List.mem_iff_getElem?.1 ho;obtain⟨x,hx,hs⟩:=rec_of (i:=j) (by simpa using hj);exact⟨j,x,hx,by rw[hs.2.1];exact hdo⟩
   have hget:∀{j:Nat} {r:Rec},(recsOf R)[j]?=some r→∃x,R[j]?=some x∧r=x.r:=by
    intro j r hj;unfold recsOf at hj;rw[List.getElem?_map]at hj;cases hx:R[j]? with
    |none=>rw[hx]at hj;cases hj
    |some x=>rw[hx]at hj;simp only[Option.map_some,Option.some.injEq]at hj;exact⟨x,rfl,hj.symm⟩
   refine⟨mS,putsR f (recsOf R),st',hI.ext,⟨⟨?_,fun t v hv=>?_⟩,?_⟩,?_,hq⟩
   ·rw[(putsR_sz (recsOf R) f).1];exact hI.size
   ·rcases putsR_get (recsOf R) f t v (fun j r d hj hd=>by obtain⟨x,hx,rfl⟩:=hget hj;exact(hdsz j x d hx hd).1) hv with⟨j,r,h1,h2,rfl⟩|⟨h1,h2⟩
    ·obtain⟨x,hx,rfl⟩:=hget h1;exact hI.done j x t hx (hS j (List.getElem?_eq_some_iff.1 hx).1) h2
    ·have:t∉dstsOf ops:=fun hm=>by
      obtain⟨j,x,g1,g2⟩:=hds t hm;exact h2 j x.r (by unfold recsOf;rw[List.getElem?_map,g1];rfl) g2
     exact hI.rest t v (fun j x hj _ hd=>this (hdsz j x t hj hd).2) h1
   ·rw[(putsR_sz (recsOf R) f).2];exact hI.defs
   ·have:=hI.cut R.length (Nat.le_refl _) fun q y hq hy=>⟨fun _=>(List.getElem?_eq_some_iff.1 hq).1,fun h=>hS q h⟩;unfold memAt at this;rw[List.getElem?_eq_none (Nat.le_refl _)]at this;exact this
  induction fuel with
  |zero=>
   intro listed a w mS hsz hcl hI hcnt;have hrd:Region.ready .any ops listed=[]:=by
    rw[List.eq_nil_iff_forall_not_mem];intro j hj;obtain⟨h1,o,ho,_⟩:=mem_ready.1 hj;have hlt:j<ops.size:=(Array.getElem?_eq_some_iff.1 ho).1;have:j∈(List.range ops.size).filter (fun j=>!listed.getD j false):=by
     rw[List.mem_filter,List.mem_range];refine⟨hlt,?_⟩;rw[Array.getD_eq_getD_getElem?,Array.getElem?_eq_getElem (by omega)]at h1 ⊢;simpa using h1
    have hnil:=List.eq_nil_of_length_eq_zero (Nat.le_zero.1 hcnt);rw[hnil]at this;cases this
   exact⟨hrd,fin listed a w mS hsz hI hrd⟩
  |succ fuel ih=>
   intro listed a w mS hsz hcl hI hcnt;refine⟨fin listed a w mS hsz hI,fun i hi=>?_⟩;obtain⟨h1,o,ho,hedge⟩:=mem_ready.1 hi;have hlt:i<ops.size:=(Array.getElem?_eq_some_iff.1 ho).1;have hun:listed.getD i false=false:=by
    rw[Array.getD_eq_getD_getElem?,Array.getElem?_eq_getElem (by omega)]at h1 ⊢;exact h1
   obtain⟨x,hri,hlts,hdst,hanc,hcase⟩:=rec_of ho;have hmi:memAt R st' i=x.mem:=by unfold memAt;rw[hri]
   have hancS:=closed (fun j=>listed.getD j false=true) hcl i x o hri ho hedge;have hT:∀t v,frameR f (dstsAt ops i) x.r.anc (recsOf (R.take i)) t=some v→∃y,a.tmps[t]?=some y∧real mS v=some y:=by
    intro t v hv;rcases frameR_look hv with⟨j,r,g1,g2,g3,rfl⟩|⟨g1,g2⟩
    ·unfold recsOf at g1;rw[List.getElem?_map,List.getElem?_take]at g1;split at g1
     ·cases hx:R[j]? with
      |none=>rw[hx]at g1;cases g1
      |some y=>
       rw[hx]at g1;simp only[Option.map_some,Option.some.injEq]at g1;subst g1;exact hI.done j y t hx (hancS j g3) g2
     ·cases g1
    ·refine hI.rest t v (fun j x' hj hS hd=>?_) g2;obtain⟨oj,hoj,hsj⟩:=op_of hj;have hdj:oj.dst=some t:=by rw[←hsj.2.1];exact hd
     cases hb:oj.after.toList.any (fun e=>Region.binds .any e&&Nat.beq e.on i)with
     |true=>
      obtain⟨e,he,hbe⟩:=List.any_eq_true.1 hb;rw[Bool.and_eq_true]at hbe;have:=hcl j oj hoj hS e (by simpa using he) hbe.1;rw[Nat.eq_of_beq_eq_true hbe.2,hun]at this;cases this
     |false=>
      refine g1 (List.mem_filterMap.2 ⟨oj,List.mem_of_getElem? (by simpa using hoj),?_⟩);rw[hb];exact hdj
   have hget:∀j,(listed.setIfInBounds i true).getD j false=true↔(listed.getD j false=true∨j=i):=by
    intro j;simp only[Array.getD_eq_getD_getElem?,Array.getElem?_setIfInBounds];by_cases hji:i=j
    ·subst hji;simp[hsz,hlt]
    ·rw[if_neg hji];constructor
     ·exact fun h=>.inl h
     ·rintro(h|h)
      ·exact h
      ·exact absurd h.symm hji
   have next:∀(y:Value) (m':List MB) (w':World),Ext mS m'→real m' x.r.v=some y→
     (∀j,j≤R.length→(∀q z,R[q]?=some z→z.eff=true→((listed.getD q false=true∨q=i)↔q<j))→Rel B W0 m' (memAt R st' j) w')→GOk w'.heap.size w'→
     wpAnyIn F 0 P .any ops (Post B W0 m Q) fuel (listed.setIfInBounds i true) (a.put o.dst y) w':=by
    intro y m' w' e1 e2 e3 e4;have hcl2:∀j o',ops[j]?=some o'→(listed.getD j false=true∨j=i)→∀e∈o'.after,Region.binds .any e=true→(listed.getD e.on false=true∨e.on=i):=by
     intro j o' hj hl e he hbe;rcases hl with hl|rfl
     ·exact .inl (hcl j o' hj hl e he hbe)
     ·rw[ho]at hj;cases hj;exact .inl (hedge e he hbe)
    have hN:=hI.step hri (fun j x' d hj hd hd'=>hdd i j x x' d hri hj hd hd') (fun d hd=>(hdsz i x d hri hd).1) e1 e2 e3 e4 (by rw[hun];simp) hconst happ (effDown _ hcl) (effDown _ hcl2) (senDown _ hcl2);rw[hdst]at hN;refine ih _ _ _ m' (by simpa using hsz) ?_ ?_ ?_
    ·intro j o' hj hl e he hbe;rw[hget]at hl ⊢;rcases hl with hl|rfl
     ·exact .inl (hcl j o' hj hl e he hbe)
     ·rw[ho]at hj;cases hj;exact .inl (hedge e he hbe)
    ·have:(fun j=>(listed.setIfInBounds i true).getD j false=true)=(fun j=>listed.getD j false=true∨j=i):=funext fun j=>propext (hget j);rw[this];exact hN
    ·have hlt2:((List.range ops.size).filter (fun j=>!(listed.setIfInBounds i true).getD j false)).length<((List.range ops.size).filter (fun j=>!listed.getD j false)).length:=by
      have hsub:(List.range ops.size).filter (fun j=>!(listed.setIfInBounds i true).getD j false)=((List.range ops.size).filter (fun j=>!listed.getD j false)).filter (fun j=>j !=i):=by
       rw[List.filter_filter];apply List.filter_congr;intro j _;by_cases h3:j=i
       ·rw[(hget j).2 (.inr h3)];subst h3;simp
       ·cases h2:listed.getD j false with
        |true=>rw[(hget j).2 (.inl h2)];simp
        |false=>
         have h1:(listed.setIfInBounds i true).getD j false=false:=by
          cases h1:(listed.setIfInBounds i true).getD j false with
          |false=>rfl
          |true=>
            rcases(hget j).1 h1 with h|h
            ·rw[h2]at h;cases h
            ·exact absurd h h3
         rw[h1];simp[h3]
      rw[hsub];have hmem:i∈(List.range ops.size).filter (fun j=>!listed.getD j false):=by rw[List.mem_filter,List.mem_range];exact⟨hlt,by rw[hun];rfl⟩
      exact List.length_filter_lt_length_iff_exists.2 ⟨i,hmem,by simp⟩
     omega
   have same:x.eff=false→∀j,j≤R.length→(∀q z,R[q]?=some z→z.eff=true→((listed.getD q false=true∨q=i)↔q<j))→Rel B W0 mS (memAt R st' j) w:=by
    intro he j hj hcut;refine hI.cut j hj fun q z hq hz=>?_;have hqi:q≠i:=by rintro rfl;rw[hri]at hq;cases hq;rw[he]at hz;cases hz
    rw[←hcut q z hq hz];exact⟨fun h=>.inl h,fun h=>h.resolve_right hqi⟩
   -- one that looks finds the memory as it is told
   have hereCut:(∀q y,q<i→R[q]?=some y→y.eff=true→Nat.testBit x.r.anc q=true)→x.sen=true→(x.eff=true∨x.mkr=false)→∀q z,R[q]?=some z→z.eff=true→(listed.getD q false=true↔q<i):=by
    intro hbefore hsen hkind q z hq hz;refine⟨fun hS=>?_,fun hlt=>hancS q (hbefore q z hlt hq hz)⟩;rcases Nat.lt_trichotomy q i with h|h|h
    ·exact h
    ·subst h;rw[hun]at hS;cases hS
    ·exfalso;obtain⟨oq,hoq,hsq⟩:=op_of hq;rcases sixth hq hz i x h hri hsen with hb|⟨_,hb1,hb2⟩
     ·have:=closed (fun j=>listed.getD j false=true) hcl q z oq hq hoq (hcl q oq hoq hS) i hb;rw[hun]at this;cases this
     ·rcases hkind with hk|hk
      ·rw[hk]at hb1;cases hb1
      ·rw[hk]at hb2;cases hb2
   have here:(∀q y,q<i→R[q]?=some y→y.eff=true→Nat.testBit x.r.anc q=true)→x.sen=true→(x.eff=true∨x.mkr=false)→Rel B W0 mS x.mem w:=by
    intro hbefore hsen hkind;rw[←hmi];exact hI.cut i (by omega) (hereCut hbefore hsen hkind)
   unfold wpOpIn;rw[ho];rcases hcase with⟨hg,hv,he,_,_⟩|⟨hg,hn,hv,he,_,_⟩|⟨hg,hop,hsen,hsame,hl1,hl2,_,_,_,hl4⟩|⟨hg,⟨tl,xo,bl,ol,hop,hxo,hvl,hblk,hl3⟩,hlx,he,_,_⟩
   ·simp only
    rw[if_neg (by rw[guardT_ok hT hg];simp)];exact⟨fun g _=>hF.fn g,next undef mS w (Ext.refl _) (by rw[hv];rfl) (same he) hI.gok⟩
   ·simp only
    rw[if_pos (guardT_ok hT hg)];have hrel:Rel w.heap.size w mS (mS.map fun _=>Blk.dead) w:=Rel.ofRo hI.gok (by simp) fun j b e hj he=>by
     rw[List.getElem?_map]at hj;rw[he]at hj;simp only[Option.map_some,Option.some.injEq]at hj;subst hj;exact⟨trivial,rfl⟩
    refine opVal_uponG hc hF hT hrel (hv _) (noDefer_spec hnd ho) ?_;intro y m' w' e1 e2 e3;have hlen:m'.length=mS.length:=by have:=e3.len;simpa using this
    have hm':m'=mS:=by
     apply List.ext_getElem?;intro k;rcases Nat.lt_or_ge k mS.length with hk|hk
     ·rw[List.getElem?_eq_getElem hk];exact e1 k _ (List.getElem?_eq_getElem hk)
     ·rw[List.getElem?_eq_none hk,List.getElem?_eq_none (by omega)]
    subst hm';exact next y _ w' (Ext.refl _) e2 (fun j hj hcut=>(same he j hj hcut).later e3.below) e3.gok
   ·simp only
    rw[if_pos (guardT_ok hT hg)];cases he:x.eff with
    |false=>
     have hb:=hl1 he;cases hmk:x.mkr with
     |true=>
      obtain⟨hs1,hs2⟩:=hl4 he hmk;obtain⟨mi,x1,r1⟩:=hI.sees i x hri (by rw[hun];simp) hsen he fun q z hq hz hlt=>hancS q (hb q z hlt hq hz);refine see_upon hc hF hT x1 r1 hs1 hs2 (noDefer_spec hnd ho) ?_;intro y w' e2 e3 e4;exact next y mS w' (Ext.refl _) e2 (fun j hj hcut=>(same he j hj hcut).later e3) e4
     |false=>
     refine vals_upon hc hF hT (here hb hsen (.inr hmk)) hop (noDefer_spec hnd ho) ?_;intro y m' w' e1 e2 e3;rw[hsame he,←hmi]at e3;refine next y m' w' e1 e2 (fun j hj hcut=>?_) e3.gok
     have hc1:=hereCut hb hsen (.inr hmk);have hsplit:∀q z,R[q]?=some z→z.eff=true→(q<i↔q<j):=by
      intro q z hq hz;have hqi:q≠i:=by rintro rfl;rw[hri]at hq;cases hq;rw[he]at hz;cases hz
      rw[←hc1 q z hq hz,←hcut q z hq hz];exact⟨fun h=>.inl h,fun h=>h.resolve_right hqi⟩
     rcases Nat.le_total i j with hij|hij
     ·have:=memAt_const hconst (j:=i) (j-i) (by omega) fun q z hq hz hb=>by have:=hsplit q z hq hz;omega
      rw[show i+(j-i)=j by omega]at this;rw[this];exact e3
     ·have:=memAt_const hconst (j:=j) (i-j) (by omega) fun q z hq hz hb=>by have:=hsplit q z hq hz;omega
      rw[show j+(i-j)=i by omega]at this;rw[←this];exact e3
    |true=>
     refine vals_upon hc hF hT (here (fun q y h1 h2 h3=>?_) hsen (.inl he)) hop (noDefer_spec hnd ho) ?_
     ·rcases hl2 he q y h1 h2 (effsen q y h2 h3)with h|⟨_,h,_⟩
      ·exact h
      ·rw[h3]at h;cases h
     ·intro y m' w' e1 e2 e3;refine next y m' w' e1 e2 (fun j hj hcut=>?_) e3.gok
      have hij:i<j:=(hcut i x hri he).1 (.inr rfl);have:=memAt_const hconst (j:=i+1) (j-(i+1)) (by omega) fun q z hq hz hb=>?_
      ·rw[show i+1+(j-(i+1))=j by omega]at this;rw[this];exact e3
      ·have hS:=(hcut q z hq hz).2 (by omega);rcases hS with hS|hS
       ·have:=effDown (fun j=>listed.getD j false=true) hcl i q x z hri hq he hz (by omega) hS;rw[hun]at this;cases this
       ·omega
   ·simp only
    rw[if_pos (guardT_ok hT hg)]
    -- so many of the effects have been carried out
    obtain⟨j,hjl,hj1,hj2⟩:=first_cut (R:=R) (S:=fun j=>listed.getD j false=true) R.length (Nat.le_refl _);have hcut:∀q z,R[q]?=some z→z.eff=true→(listed.getD q false=true↔q<j):=by
     intro q z hq hz;refine⟨fun hS=>?_,hj1 q z hq hz⟩;rcases hj2 with rfl|⟨zj,hzj,hej,hnS⟩
     ·exact(List.getElem?_eq_some_iff.1 hq).1
     ·rcases Nat.lt_trichotomy q j with h|h|h
      ·exact h
      ·subst h;exact absurd hS hnS
      ·exfalso;exact hnS (effDown (fun j=>listed.getD j false=true) hcl j q zj z hzj hq hej hz h hS)
    have hrel:=hI.cut j hjl hcut;have hpt:∃e,at? mS bl=some e:=by
     cases xo with
     |tmp tt=>
      obtain⟨y,_,h2⟩:=hT tt _ hxo;obtain⟨e,he,_⟩:=real_ptr h2;exact⟨e,he⟩
     |const c=>
      have h2:=real_ofConst mS hxo;obtain⟨e,he,_⟩:=real_ptr h2;exact⟨e,he⟩
     |global g=>
      have h2:real mS (.ptr bl ol)=some (a.eval (.global g)):=ev_global hxo;obtain⟨e,he,_⟩:=real_ptr h2;exact⟨e,he⟩
     |func g=>cases hxo
    obtain⟨e0,he0⟩:=hpt;have hbl:bl<(memAt R st' j).length:=by rw[←hrel.len];exact(List.getElem?_eq_some_iff.1 (at_get he0)).1
    have hmk1:∀q z,R[q]?=some z→z.eff=true→z.mkr=true→bl<(memAt R st' q).length→(memAt R st' (q+1))[bl]?=(memAt R st' q)[bl]?:=by
     intro q z hq hz hk hlq;obtain⟨k,hk⟩:=happ q z hq hz hk;rw[hk,List.getElem?_append_left hlq]
    have hsameB:(memAt R st' j)[bl]?=(memAt R st' i)[bl]?:=by
     rcases Nat.le_total j i with hji|hij
     ·have:=memAt_keep hconst hbl (i-j) (by omega) fun q z hq h1 h2 hz hlq=>by
       cases hk:z.mkr with
       |true=>exact hmk1 q z hq hz hk hlq
       |false=>
        rcases hl3 q z (by omega) hq hz hk with h|⟨c,hc1,hc2⟩
        ·have:=(hcut q z hq hz).1 (hancS q h);omega
        ·exact hkeep q z hq hz c hc1 bl (fun e=>hc2 e.symm) hlq
      rw[show j+(i-j)=i by omega]at this;exact this.symm
     ·have hbi:bl<(memAt R st' i).length:=by
       rcases Nat.lt_or_ge bl (memAt R st' i).length with h|h
       ·exact h
       ·exfalso;have hnone:(memAt R st' i)[bl]?=none:=List.getElem?_eq_none h;rw[hmi]at hnone;unfold loadV blkCells at hvl;simp only[hnone]at hvl;split at hvl
        ·split at hvl<;>cases hvl
        ·cases hvl
        ·cases hvl
      have:=memAt_keep hconst hbi (j-i) (by omega) fun q z hq h1 h2 hz hlq=>by
       cases hk:z.mkr with
       |true=>exact hmk1 q z hq hz hk hlq
       |false=>
        have hqi:q≠i:=by rintro rfl;rw[hri]at hq;cases hq;rw[he]at hz;cases hz
        have hS:=(hcut q z hq hz).2 (by omega);obtain⟨oq,hoq,hsq⟩:=op_of hq;rcases hsq.2.2.2 with⟨_,_,h3,_⟩|⟨_,_,_,h3,_⟩|⟨_,_,_,_,_,_,h7,_⟩|⟨_,_,_,h3,_⟩
        ·rw[h3]at hz;cases hz
        ·rw[h3]at hz;cases hz
        ·rcases h7 hz hk i x (by omega) hri hlx with hb|⟨c,b',hc1,hc2,hc3⟩
         ·have:=closed (fun j=>listed.getD j false=true) hcl q z oq hq hoq (hcl q oq hoq hS) i hb;rw[hun]at this;cases this
         ·rw[hblk]at hc2;cases hc2;exact hkeep q z hq hz c hc1 bl (fun e=>hc3 e.symm) hlq
        ·rw[h3]at hz;cases hz
      rw[show i+(j-i)=j by omega]at this;exact this
    have hpv:pureOp P (memAt R st' j) (ev (frameR f (dstsAt ops i) x.r.anc (recsOf (R.take i)))) o.op=some x.r.v:=by
     rw[hop];simp only[pureOp,hxo];rw[hmi]at hsameB;rw[←hvl];unfold loadV blkCells;rw[hsameB]
    refine pure_upon hF hT hrel hpv (noDefer_spec hnd ho) ?_;intro y hy;exact next y mS w (Ext.refl _) hy (same he) hI.gok
 refine wpIn_region_any hm (key ops.size (Array.replicate ops.size false) a _ m (by simp) ?_ ?_ ?_)
 ·intro j o hj hl;simp[Array.getD_eq_getD_getElem?,Array.getElem?_replicate]at hl;split at hl<;>simp at hl
 ·have hno:∀j,¬((Array.replicate ops.size false).getD j false=true):=by
   intro j hl;simp[Array.getD_eq_getD_getElem?,Array.getElem?_replicate]at hl;split at hl<;>simp at hl
  refine⟨Ext.refl m,fun j hj hcut=>?_,hA.tmps.1,fun j x d _ hS=>absurd hS (hno j),fun t v _ hv=>hA.tmps.2 t v hv,hA.defers,hr.drew'.gok,fun i x hi _ _ _ hall=>⟨m,Ext.refl m,?_⟩⟩
  ·have:=memAt_const hconst (j:=0) j (by omega) fun q z hq hz hb=>hno q ((hcut q z hq hz).2 (by omega));rw[Nat.zero_add]at this;rw[this,hmem0];exact hr.drew'
  ·have hil:=(List.getElem?_eq_some_iff.1 hi).1;have hmi:memAt R st' i=x.mem:=by unfold memAt;rw[hi]
   have:=memAt_const hconst (j:=0) i (by omega) fun q z hq hz hb=>hno q (hall q z hq hz (by omega));rw[Nat.zero_add]at this;rw[←hmi,this,hmem0];exact hr.drew'
 ·have:=List.length_filter_le (fun j=>!(Array.replicate ops.size false).getD j false) (List.range ops.size);simpa using this
end
end Go.Vm
namespace Go.Vm
variable [G:Glob] [Φ:Frz]
set_option linter.unusedSectionVars false
set_option linter.unusedVariables false
open Go.RowKit
structure MI where
 i:Nat
 d:TypeDesc
 k:V
 v:V
def insOp:Op→Option (TypeId×Operand×Operand×Operand)
 |.insert t x k y=>some (t,x,k,y)
 |_=>none
theorem insOp_spec{op:Op}{t:TypeId}{x k y:Operand}(h:insOp op=some (t,x,k,y)):op=.insert t x k y:=by
 unfold insOp at h;split at h
 ·cases h;rfl
 ·cases h
def stepI(P:Program)(ops:Array Oper)(f:Fr)(n:Nat)(dsts:List Tmp)(recs:List Rec)(o:Oper)(t:TypeId)(x k y:Operand):Option (Rec×MI):=
 bif o.after.toList.all (fun e=>!Region.binds .any e||Nat.blt e.on recs.length)then
  match guardT ops (frameR f dsts (ancOf recs o.after.toList) recs) o with
  |some true=>match ev (frameR f dsts (ancOf recs o.after.toList) recs) x,ev (frameR f dsts (ancOf recs o.after.toList) recs) k,ev (frameR f dsts (ancOf recs o.after.toList) recs) y,P.underlying t with
   |some (.map b),some kv,some vv,some (.map kt _)=>match P.underlying kt with
    |some d=>bif Nat.beq b n&&keyV d kv then some (⟨o.dst,.tuple [],ancOf recs o.after.toList,[]⟩,⟨recs.length,d,kv,vv⟩)else none
    |none=>none
   |_,_,_,_=>none
  |_=>none
 else none
def evalM(P:Program)(call:Call)(ops:Array Oper)(f:Fr)(st:St)(dsts:List Tmp):List Oper→List Rec→List MI→Option (List Rec×List MI)
 |[],recs,ins=>some (recs,ins)
 |o::r,recs,ins=>match insOp o.op with
  |some (t,x,k,y)=>match stepI P ops f st.length dsts recs o t x k y with
   |some (rec,mi)=>bif ins.all (fun j=>keyV mi.d j.k&&!keyEq mi.k j.k)then evalM P call ops f st dsts r (recs++[rec]) (ins++[mi])else none
   |none=>none
  |none=>match stepR P call ops f st dsts recs o with
   |some x=>evalM P call ops f st dsts r (recs++[x]) ins
   |none=>none
def cellsM:List MI→List V
 |[]=>[]
 |x::r=>x.k::x.v::cellsM r
def isMake:Op→Bool
 |.makeMap _ none=>true
 |_=>false
theorem bif_elimO{α:Type}{b:Bool}{x y z:α}(h:(bif b then x else y)=z):(b=true∧x=z)∨(b=false∧y=z):=by
 cases b with
 |true=>exact .inl ⟨rfl,h⟩
 |false=>exact .inr ⟨rfl,h⟩
def isMpu:List Blk→Bool
 |[.mpu]=>true
 |_=>false
def evalDrawMap(P:Program)(call:Call)(ops:Array Oper)(f:Fr)(st:St):Option (Fr×St):=
 bif (distinct (dstsOf ops)&&(dstsOf ops).all (fun d=>Nat.blt d f.sz))&&noDefer ops then
  match ops.toList with
  |o::_=>bif isMake o.op then(match evalM P call ops f st (dstsOf ops) ops.toList [] []with
   |some (recs,ins)=>match recs with
    |r::_=>bif isMpu r.blks&&r.dst.isSome then some (putsR f recs,(st++blksR recs).set st.length (.mp (cellsM ins)))else none
    |[]=>none
   |none=>none)else none
  |[]=>none
 else none
theorem evalDrawMap_pre{P:Program}{call:Call}{ops:Array Oper}{f f':Fr}{st st':St}(h:evalDrawMap P call ops f st=some (f',st')):st'.take st.length=st:=by
 unfold evalDrawMap at h;rcases bif_elimO h with⟨_,h⟩|⟨_,h⟩
 ·split at h
  ·rcases bif_elimO h with⟨_,h⟩|⟨_,h⟩
   ·split at h
    ·split at h
     ·rcases bif_elimO h with⟨_,h⟩|⟨_,h⟩
      ·cases h;rw[List.take_set_of_le (Nat.le_refl _),List.take_left]
      ·cases h
     ·cases h
    ·cases h
   ·cases h
  ·cases h
 ·cases h
def StepX(P:Program)(call:Call)(ops:Array Oper)(f:Fr)(st:St)(dsts:List Tmp)(recs:List Rec)(o:Oper)(r:Rec)(I:List MI)(idx:Nat):Prop:=
 (insOp o.op=none∧stepR P call ops f st dsts recs o=some r∧∀x∈I,x.i≠idx)∨
 (∃t x k y mi,mi∈I∧mi.i=idx∧insOp o.op=some (t,x,k,y)∧stepI P ops f st.length dsts recs o t x k y=some (r,mi))
def MIOk(a b:MI):Prop:=a.i<b.i∧keyV b.d a.k=true∧keyEq b.k a.k=false
theorem stepI_parts{P:Program}{ops:Array Oper}{f:Fr}{n:Nat}{dsts:List Tmp}{recs:List Rec}{o:Oper}{t:TypeId}{x k y:Operand}{r:Rec}{mi:MI}(h:stepI P ops f n dsts recs o t x k y=some (r,mi)):
  (∀e∈o.after,Region.binds .any e=true→e.on<recs.length)∧r.dst=o.dst∧r.anc=ancOf recs o.after.toList∧r.v=.tuple []∧r.blks=[]∧guardT ops (frameR f dsts r.anc recs) o=some true∧mi.i=recs.length∧keyV mi.d mi.k=true∧
  ev (frameR f dsts r.anc recs) x=some (.map n)∧ev (frameR f dsts r.anc recs) k=some mi.k∧ev (frameR f dsts r.anc recs) y=some mi.v∧∃kt et,P.underlying t=some (.map kt et)∧P.underlying kt=some mi.d:=by
 unfold stepI at h;cases hb:o.after.toList.all (fun e=>!Region.binds .any e||Nat.blt e.on recs.length)with
 |false=>rw[hb]at h;cases h
 |true=>
  rw[hb,cond_true]at h;have h0:∀e∈o.after,Region.binds .any e=true→e.on<recs.length:=by
   intro e he hbe;have:=List.all_eq_true.1 hb e (by simpa using he);simp only[hbe,Bool.not_true,Bool.false_or]at this;exact blt_true this
  split at h
  ·rename_i hg;split at h
   ·rename_i b kv vv kt et hx hk hy hu;split at h
    ·rename_i d hd;cases hc:(Nat.beq b n&&keyV d kv)with
     |false=>rw[hc]at h;cases h
     |true=>
      rw[hc,cond_true]at h;cases h;rw[Bool.and_eq_true]at hc;have:=Nat.eq_of_beq_eq_true hc.1;subst this;exact⟨h0,rfl,rfl,rfl,rfl,hg,rfl,hc.2,hx,hk,hy,kt,et,hu,hd⟩
    ·cases h
   ·cases h
  ·cases h
theorem evalM_spec{P:Program}{call:Call}{ops:Array Oper}{f:Fr}{st:St}{dsts:List Tmp}:∀(l:List Oper) (recs:List Rec) (ins:List MI) (R:List Rec) (I:List MI),evalM P call ops f st dsts l recs ins=some (R,I)→(∀x∈ins,x.i<recs.length)→ins.Pairwise MIOk→
  R.take recs.length=recs∧R.length=recs.length+l.length∧I.Pairwise MIOk∧(∀x∈I,x∈ins∨(keyV x.d x.k=true∧x.i<recs.length+l.length))∧(∀x∈I,x.i<recs.length→x∈ins)∧(∀x∈ins,x∈I)∧∀(j:Nat) (o:Oper),l[j]?=some o→∃r,R[recs.length+j]?=some r∧StepX P call ops f st dsts (R.take (recs.length+j)) o r I (recs.length+j)
 |[],recs,ins,R,I,h,hlt,hpw=>by
  simp only[evalM,Option.some.injEq,Prod.mk.injEq]at h;obtain⟨rfl,rfl⟩:=h;exact⟨by simp,by simp,hpw,fun x hx=>.inl hx,fun x hx _=>hx,fun x hx=>hx,fun j o hj=>by simp at hj⟩
 |o::l,recs,ins,R,I,h,hlt,hpw=>by
  have go:∀(x:Rec) (ins':List MI),evalM P call ops f st dsts l (recs++[x]) ins'=some (R,I)→(∀y∈ins',y.i<(recs++[x]).length)→ins'.Pairwise MIOk→(∀y∈ins',y.i<recs.length→y∈ins)→(∀y∈ins,y∈ins')→(∀y∈ins',y∈ins∨(keyV y.d y.k=true∧y.i=recs.length))→
    ((∀y∈ins',y∈I)→(∀y∈I,y.i=recs.length→y∈ins')→StepX P call ops f st dsts recs o x I recs.length)→
    R.take recs.length=recs∧R.length=recs.length+(o::l).length∧I.Pairwise MIOk∧(∀x∈I,x∈ins∨(keyV x.d x.k=true∧x.i<recs.length+(o::l).length))∧(∀x∈I,x.i<recs.length→x∈ins)∧(∀x∈ins,x∈I)∧∀(j:Nat) (o':Oper),(o::l)[j]?=some o'→∃r,R[recs.length+j]?=some r∧StepX P call ops f st dsts (R.take (recs.length+j)) o' r I (recs.length+j):=by
   intro x ins' h1 h2 h3 h4 h5 h7 h6;obtain⟨k1,k2,k3,k7,k4,k5,k6⟩:=evalM_spec l (recs++[x]) ins' R I h1 h2 h3;have ht:R.take recs.length=recs:=by
    have:=congrArg (List.take recs.length) k1;rw[List.take_take,List.length_append]at this;simpa[Nat.min_eq_left]using this
   have hx':R[recs.length]?=some x:=by
    have:=congrArg (fun q:List Rec=>q[recs.length]?) k1;simpa using this
   refine⟨ht,by simp at k2;simp;omega,k3,fun y hy=>(k7 y hy).elim (fun h=>(h7 y h).imp id fun h=>⟨h.1,by simp;omega⟩) fun h=>.inr ⟨h.1,by have:=h.2;simp at this ⊢;omega⟩,fun y hy hyl=>h4 y (k4 y hy (by simp;omega)) hyl,fun y hy=>k5 y (h5 y hy),fun j o' hj=>?_⟩;cases j with
   |zero=>
    simp only[List.getElem?_cons_zero,Option.some.injEq]at hj;subst hj;exact⟨x,by simpa using hx',by simpa[ht]using h6 k5 fun y hy hyi=>k4 y hy (by simp;omega)⟩
   |succ j=>
    simp only[List.getElem?_cons_succ]at hj;obtain⟨r,g1,g2⟩:=k6 j o' hj;have e:(recs++[x]).length+j=recs.length+(j+1):=by simp;omega
    rw[e]at g1 g2;exact⟨r,g1,g2⟩
  simp only[evalM]at h;cases hi:insOp o.op with
  |some q=>
   obtain⟨t,x,k,y⟩:=q;simp only[hi]at h;split at h
   ·rename_i rec mi hs;cases hc:ins.all (fun j=>keyV mi.d j.k&&!keyEq mi.k j.k)with
    |false=>rw[hc]at h;cases h
    |true=>
     rw[hc,cond_true]at h;have hmi:=(stepI_parts hs).2.2.2.2.2.2.1;refine go rec (ins++[mi]) h (fun z hz=>?_) ?_ (fun z hz hzl=>?_) (fun z hz=>List.mem_append_left _ hz) (fun z hz=>(List.mem_append.1 hz).elim .inl fun hz=>.inr (by simp only[List.mem_singleton]at hz;subst hz;exact⟨(stepI_parts hs).2.2.2.2.2.2.2.1,hmi⟩)) fun hin _=>.inr ⟨t,x,k,y,mi,hin mi (by simp),hmi,hi,hs⟩
     ·rcases List.mem_append.1 hz with hz|hz
      ·have:=hlt z hz;simp;omega
      ·simp only[List.mem_singleton]at hz;subst hz;simp;omega
     ·rw[List.pairwise_append];refine⟨hpw,by simp,fun a ha b hb=>?_⟩;simp only[List.mem_singleton]at hb;subst hb;have:=List.all_eq_true.1 hc a ha;simp only[Bool.and_eq_true,Bool.not_eq_true']at this;exact⟨by rw[hmi];exact hlt a ha,this.1,this.2⟩
     ·rcases List.mem_append.1 hz with hz|hz
      ·exact hz
      ·simp only[List.mem_singleton]at hz;subst hz;omega
   ·cases h
  |none=>
   simp only[hi]at h;split at h
   ·rename_i x hs;refine go x ins h (fun z hz=>by have:=hlt z hz;simp;omega) hpw (fun z hz _=>hz) (fun z hz=>hz) (fun z hz=>.inl hz) fun _ hl=>.inl ⟨hi,hs,fun z hz hzi=>?_⟩;have:=hlt z (hl z hz hzi);omega
   ·cases h
theorem keyV_det{d d':TypeDesc}{v:V}(h:keyV d v=true)(h':keyV d' v=true):d=d':=by
 cases v<;>cases d<;>simp only[keyV,Bool.false_eq_true]at h<;>cases d'<;>simp only[keyV,Bool.false_eq_true]at h'<;>first|rfl|(have e1:=of_decide_eq_true h;have e2:=of_decide_eq_true h';rw[←e1,←e2])
theorem pw_get{I:List MI}(h:I.Pairwise MIOk):∀a∈I,∀b∈I,a.i<b.i→MIOk a b:=by
 induction I with
 |nil=>intro a ha;simp at ha
 |cons x r ih=>
  rw[List.pairwise_cons]at h;intro a ha b hb hlt;rcases List.mem_cons.1 ha with ea|ha
  ·rcases List.mem_cons.1 hb with eb|hb
   ·rw[ea,eb]at hlt;omega
   ·rw[ea];exact h.1 b hb
  ·rcases List.mem_cons.1 hb with eb|hb
   ·have:=(h.1 a ha).1;rw[eb]at hlt;omega
   ·exact ih h.2 a ha b hb hlt
theorem cells_two{m:List MB}{x:MI}{r:List MI}{ps:List (Value×Value)}(h:realL m (cellsM (x::r))=some (flatP ps)):∃kx vx ps',ps=(kx,vx)::ps'∧real m x.k=some kx∧real m x.v=some vx∧realL m (cellsM r)=some (flatP ps'):=by
 obtain⟨a,b,h1,h2,h3⟩:=realL_cons h;obtain⟨c,d,h4,h5,rfl⟩:=realL_cons h2;obtain⟨ps',rfl,hp⟩:=flatP_two h3;exact⟨a,c,ps',rfl,h1,h4,by rw[hp];exact h5⟩
theorem cells_nil{m:List MB}{ps:List (Value×Value)}(h:realL m (cellsM [])=some (flatP ps)):ps=[]:=by
 simp only[cellsM,realL,Option.some.injEq]at h;exact flatP_nil h.symm
theorem cells_mem{m:List MB}:∀(I:List MI) (ps:List (Value×Value)),realL m (cellsM I)=some (flatP ps)→∀p∈ps,∃x∈I,real m x.k=some p.1
 |[],ps,h,p,hp=>by rw[cells_nil h]at hp;simp at hp
 |x::r,ps,h,p,hp=>by
  obtain⟨kx,vx,ps',rfl,h1,h2,h3⟩:=cells_two h;rcases List.mem_cons.1 hp with rfl|hp
  ·exact⟨x,List.mem_cons_self,h1⟩
  ·obtain⟨y,hy,hk⟩:=cells_mem r ps' h3 p hp;exact⟨y,List.mem_cons_of_mem _ hy,hk⟩
theorem mi_ne{m:List MB}{a b:MI}(ha:keyV a.d a.k=true)(hb:keyV b.d b.k=true)(h:MIOk a b){x y:Value}(hx:real m a.k=some x)(hy:real m b.k=some y):MapKept.IsKey b.d x∧MapKept.IsKey a.d y∧x≠y:=by
 have hd:=keyV_det ha h.2.1;refine⟨keyV_ok h.2.1 hx,by rw[hd];exact keyV_ok hb hy,fun e=>?_⟩;have:=(keyEq_ok hb h.2.1 hy hx).2 e.symm;rw[h.2.2]at this;cases this
theorem cells_nodup{m:List MB}:∀(I:List MI) (ps:List (Value×Value)),realL m (cellsM I)=some (flatP ps)→I.Pairwise MIOk→(∀x∈I,keyV x.d x.k=true)→(ps.map (·.1)).Nodup
 |[],ps,h,_,_=>by rw[cells_nil h];simp
 |x::r,ps,h,hpw,hk=>by
  obtain⟨kx,vx,ps',rfl,h1,h2,h3⟩:=cells_two h;rw[List.pairwise_cons]at hpw;rw[List.map_cons,List.nodup_cons];refine⟨fun hm=>?_,cells_nodup r ps' h3 hpw.2 fun y hy=>hk y (List.mem_cons_of_mem _ hy)⟩;obtain⟨p,hp,he⟩:=List.mem_map.1 hm;obtain⟨y,hy,hyk⟩:=cells_mem r ps' h3 p hp;exact(mi_ne (hk x List.mem_cons_self) (hk y (List.mem_cons_of_mem _ hy)) (hpw.1 y hy) h1 hyk).2.2 he.symm
theorem cells_put{m:List MB}{L L':Nat→Bool}{i:Nat}(hL:∀j,L' j=(L j||Nat.beq j i))(hi:L i=false){mi:MI}(hmi:mi.i=i){kx vx:Value}(hk:real m mi.k=some kx)(hv:real m mi.v=some vx):∀(I:List MI) (ps:List (Value×Value)),I.Pairwise MIOk→mi∈I→realL m (cellsM (I.filter fun x=>L x.i))=some (flatP ps)→
  ∃ps',realL m (cellsM (I.filter fun x=>L' x.i))=some (flatP ps')∧ps'.Perm (ps++[(kx,vx)])
 |[],ps,_,h,_=>by simp at h
 |a::r,ps,hpw,hm,h=>by
  rw[List.pairwise_cons]at hpw;rcases List.mem_cons.1 hm with rfl|hm
  ·have e1:L mi.i=false:=by rw[hmi];exact hi
   have e2:L' mi.i=true:=by rw[hL,hmi,Nat.beq_refl];simp
   rw[List.filter_cons_of_neg (by rw[e1];simp)]at h;rw[List.filter_cons_of_pos (by exact e2)];have e3:(r.filter fun x=>L' x.i)=r.filter fun x=>L x.i:=by
    apply List.filter_congr;intro x hx;have:=(hpw.1 x hx).1;rw[hL];have:Nat.beq x.i i=false:=by cases hb:Nat.beq x.i i with
     |false=>rfl
     |true=>have:=Nat.eq_of_beq_eq_true hb;omega
    rw[this];simp
   rw[e3];exact⟨(kx,vx)::ps,realL_mk hk (realL_mk hv h),(List.perm_append_comm (l₁:=[(kx,vx)]) (l₂:=ps))⟩
  ·have hai:a.i≠i:=by
    have:=(hpw.1 mi hm).1;omega
   have e0:L' a.i=L a.i:=by
    rw[hL];have:Nat.beq a.i i=false:=by cases hb:Nat.beq a.i i with
     |false=>rfl
     |true=>exact absurd (Nat.eq_of_beq_eq_true hb) hai
    rw[this];simp
   cases ha:L a.i with
   |true=>
    rw[List.filter_cons_of_pos (by exact ha)]at h;rw[List.filter_cons_of_pos (by rw[e0];exact ha)];obtain⟨ka,va,ps0,rfl,h1,h2,h3⟩:=cells_two h;obtain⟨ps',g1,g2⟩:=cells_put hL hi hmi hk hv r ps0 hpw.2 hm h3;exact⟨(ka,va)::ps',realL_mk h1 (realL_mk h2 g1),g2.cons _⟩
   |false=>
    rw[List.filter_cons_of_neg (by rw[ha];simp)]at h;rw[List.filter_cons_of_neg (by rw[e0,ha];simp)];exact cells_put hL hi hmi hk hv r ps hpw.2 hm h
structure Inv2 (st:St) (I:List MI) (L:Nat→Bool) (w:World) (mS:List MB):Prop where
 map:∀e,at? mS st.length=some e→∃es c ps,w.heap[e.blk]?=some (.map es c)∧(es.toList.map fun e=>(e.key,e.val)).Perm ps∧realL mS (cellsM (I.filter fun x=>L x.i))=some (flatP ps)
 first:∀x∈I,L x.i=true→L 0=true
section
variable {P:Program} {call:Call} {ro:Option Nat} {f:Fr} {st:St} {B:Nat} {W0 w w':World} {m mS:List MB} {R:List Rec} {dsts:List Tmp} {S:Nat→Prop} {a:Act}
theorem Inv.poke(hI:Inv B W0 m st f R dsts S a w mS){r0:Rec}(h0:R[0]?=some r0)(hb:r0.blks=[.mpu])(hS0:S 0){e:MB}(he:mS[st.length]?=some e){es':Array MapEntry}{c':Nat}{es:Array MapEntry}{c:Nat}(hh:w.heap[e.blk]?=some (.map es c)):
  Inv B W0 m st f R dsts S a {w with heap:=w.heap.setIfInBounds e.blk (.map es' c')} mS:=by
 have honly:=only_setObj w e.blk (.map es' c');have hlt:e.blk<w.heap.size:=(Array.getElem?_eq_some_iff.1 hh).1;have hat:BlkAt st R S st.length .mpu:=.inr ⟨0,r0,0,h0,hS0,by rw[hb];rfl,by simp[lenR]⟩;have hne:∀{p:Nat} {b:Blk} {d:MB},p≠st.length→BlkAt st R S p b→b.live=true→mS[p]?=some d→d.blk≠e.blk:=by
  intro p b d hp hbt hl hd q;exact hI.inj st.length p .mpu b e d (fun h=>hp h.symm) hat rfl hbt hl he hd q.symm
 have hB:B≤e.blk:=by
  obtain⟨e',h1,h2⟩:=hI.done 0 r0 h0 hS0 0 .mpu (by rw[hb];rfl);simp only[List.take_zero,lenR,Nat.add_zero]at h1;rw[he]at h1;cases h1;exact h2.1
 refine⟨hI.len,hI.ext,?_,?_,hI.todo,hI.inj,hI.sz,hI.val,hI.kept,hI.defers⟩
 ·refine⟨hI.old.len,by rw[honly.size];exact hI.old.base,hI.old.below.trans ⟨rfl,rfl,rfl,Nat.le_of_eq honly.size.symm,fun k hk=>honly.block k (by omega)⟩,fun i b d hi hd=>?_,hI.old.inj,hI.old.glob⟩;have hil:=(List.getElem?_eq_some_iff.1 hi).1;exact(hI.old.blk i b d hi hd).same fun hl=>honly.block _ (hne (by omega) (.inl hi) hl (hI.ext i d hd))
 ·intro j r hj hSj k b hbk;obtain⟨d,h1,h2⟩:=hI.done j r hj hSj k b hbk;refine⟨d,h1,?_⟩;by_cases hp:st.length+lenR (R.take j)+k=st.length
  ·rw[hp,he]at h1;cases h1;have hk:k<r.blks.length:=(List.getElem?_eq_some_iff.1 hbk).1;have hj0:=place_lt hj h0 hk (by rw[hb];simp:0<r0.blks.length) (by simp only[List.take_zero,lenR];omega);subst hj0;rw[h0]at hj;cases hj;rw[hb]at hbk hk;have hk0:k=0:=by simp at hk;omega
   subst hk0;simp only[List.getElem?_cons_zero,Option.some.injEq]at hbk;subst hbk;exact⟨hB,es',c',by simp[hlt]⟩
  ·exact h2.same fun hl=>honly.block _ (hne hp (.inr ⟨j,r,k,hj,hSj,hbk,rfl⟩) hl h1)
theorem sat_draw_map{id:Nat}{ops:Array Oper}{Q:Exit→Fr→St→Prop}(hm:P.follows .mixedOrders=true)(hc:CallOk P call){f':Fr}{st':St}(h:evalDrawMap P call ops f st=some (f',st'))(hq:Q .normal f' st'):
  CodeSat P ro (.region id ops true) f st Q:=by
 unfold evalDrawMap at h;cases hb:((distinct (dstsOf ops)&&(dstsOf ops).all (fun d=>Nat.blt d f.sz))&&noDefer ops)with
 |false=>rw[hb]at h;cases h
 |true=>
 rw[hb,cond_true]at h;simp only[Bool.and_eq_true]at hb;obtain⟨⟨hdis,hall⟩,hnd⟩:=hb;split at h
 case h_2=>cases h
 rename_i o0 orest hops;cases hmk:isMake o0.op with
 |false=>rw[hmk]at h;cases h
 |true=>
 rw[hmk,cond_true]at h;split at h
 case h_2=>cases h
 rename_i R I hR;split at h
 case h_2=>cases h
 rename_i r0 rrest;cases hmp0:(isMpu r0.blks&&r0.dst.isSome)with
 |false=>rw[hmp0]at h;cases h
 |true=>
 rw[hmp0,cond_true]at h;rw[Bool.and_eq_true]at hmp0;obtain⟨hmp,hds0⟩:=hmp0;have hmp':r0.blks=[.mpu]:=by
  unfold isMpu at hmp;split at hmp
  ·assumption
  ·cases hmp
 have hR0:(r0::rrest)[0]?=some r0:=rfl;generalize hRR:r0::rrest=R at*
 cases h;obtain⟨_,hlen,hpw,hky,_,_,hspec⟩:=evalM_spec ops.toList [] [] R I hR (fun x hx=>by simp at hx) List.Pairwise.nil;simp only[List.length_nil,Nat.zero_add]at hlen hspec;have parts:∀{i:Nat} {o:Oper} {r:Rec},StepX P call ops f st (dstsOf ops) (R.take i) o r I i→(∀e∈o.after,Region.binds .any e=true→e.on<(R.take i).length)∧r.dst=o.dst∧r.anc=ancOf (R.take i) o.after.toList:=by
  rintro i o r (⟨_,h,_⟩|⟨t,x,k,y,mi,_,_,_,h⟩)
  ·exact⟨(stepR_parts h).1,(stepR_parts h).2.1,(stepR_parts h).2.2.1⟩
  ·exact⟨(stepI_parts h).1,(stepI_parts h).2.1,(stepI_parts h).2.2.1⟩
 have rec_of:∀{i:Nat} {o:Oper},ops[i]?=some o→∃r,R[i]?=some r∧StepX P call ops f st (dstsOf ops) (R.take i) o r I i:=fun ho=>hspec _ _ (by simpa using ho);have op_of:∀{i:Nat} {r:Rec},R[i]?=some r→∃o,ops[i]?=some o∧StepX P call ops f st (dstsOf ops) (R.take i) o r I i:=by
  intro i r hr;have hi:i<ops.toList.length:=hlen▸(List.getElem?_eq_some_iff.1 hr).1;have ho:ops.toList[i]?=some ops.toList[i]:=List.getElem?_eq_getElem hi;obtain⟨r',h1,h2⟩:=hspec i _ ho;rw[hr]at h1;cases h1;exact⟨_,by simp,h2⟩
 have dst_of:∀{i:Nat} {r:Rec},R[i]?=some r→∃o,ops[i]?=some o∧r.dst=o.dst:=fun hr=>let ⟨o,h1,h2⟩:=op_of hr;⟨o,h1,(parts h2).2.1⟩;have hdsz:∀(j:Nat) (r:Rec) (d:Tmp),R[j]?=some r→r.dst=some d→d<f.sz∧d∈dstsOf ops:=by
  intro j r d hj hd;obtain⟨o,h1,h2⟩:=dst_of hj;have hmem:d∈dstsOf ops:=List.mem_filterMap.2 ⟨o,List.mem_of_getElem? (by simpa using h1),h2▸hd⟩;exact⟨blt_true (List.all_eq_true.1 hall d hmem),hmem⟩
 have hdd:∀(i j:Nat) (r r':Rec) (d:Tmp),R[i]?=some r→R[j]?=some r'→r.dst=some d→r'.dst=some d→j=i:=by
  intro i j r r' d hi hj hd hd';obtain⟨o,h1,h2⟩:=dst_of hi;obtain⟨o',h1',h2'⟩:=dst_of hj;exact filterMap_distinct (fun o:Oper=>o.dst) hdis j i o' o d (by simpa using h1') (by simpa using h1) (h2'▸hd') (h2▸hd)
 -- what lies ahead of an operation has been carried out
 have closed:∀(S:Nat→Prop),(∀j o,ops[j]?=some o→S j→∀e∈o.after,Region.binds .any e=true→S e.on)→
   ∀(i:Nat) (r:Rec) (o:Oper),R[i]?=some r→ops[i]?=some o→(∀e∈o.after,Region.binds .any e=true→S e.on)→∀k,Nat.testBit r.anc k=true→S k:=by
  intro S hS i
  induction i using Nat.strongRecOn with
  |_ i ih=>
   intro r o hr ho hedge k hk;obtain⟨o',ho',hst⟩:=op_of hr;rw[ho]at ho';cases ho';obtain⟨hlt,_,hanc⟩:=parts hst;rw[hanc]at hk;obtain⟨e,he,hbe,hcase⟩:=ancOf_bit hk;have he':e∈o.after:=by simpa using he
   have hel:=hlt e he' hbe;have hei:e.on<i:=by
    rw[List.length_take]at hel;omega
   rcases hcase with rfl|⟨r',hr',hk'⟩
   ·exact hedge e he' hbe
   ·rw[List.getElem?_take,if_pos hei]at hr';obtain⟨o2,ho2,_⟩:=op_of hr';exact ih e.on hei r' o2 hr' ho2 (hS e.on o2 ho2 (hedge e he' hbe)) k hk'
 -- the first operation makes the map
 have hop0:ops[0]?=some o0:=by
  have:ops.toList[0]?=some o0:=by rw[hops];rfl
  simpa using this
 obtain⟨t0,hmk0⟩:∃t0,o0.op=.makeMap t0 none:=by
  unfold isMake at hmk;split at hmk
  ·rename_i t e;exact⟨t,e⟩
  ·cases hmk
 have hno0:insOp o0.op=none:=by rw[hmk0];rfl
 have hI0:∀x∈I,x.i≠0:=by
  obtain⟨r,h1,h2⟩:=rec_of hop0;rcases h2 with⟨_,_,h⟩|⟨t,x,k,y,mi,_,_,h,_⟩
  ·exact h
  ·rw[hno0]at h;cases h
 have hkeys:∀x∈I,keyV x.d x.k=true:=by
  intro x hx;rcases hky x hx with h|h
  ·simp at h
  ·exact h.1
 have hib:∀x∈I,x.i<ops.toList.length:=by
  intro x hx;rcases hky x hx with h|h
  ·simp at h
  ·have:=h.2;simpa using this
 have htop:∀{S:Nat→Prop} {a:Act} {w:World} {mS:List MB} {B:Nat} {W0:World} {m:List MB},Inv B W0 m st f R (dstsOf ops) S a w mS→¬S 0→at? mS st.length=none:=by
  intro S a w mS B W0 m hI hS;have:=hI.todo 0 r0 hR0 hS 0 (by rw[hmp'];simp);simp only[List.take_zero,lenR,Nat.add_zero]at this;unfold at?;rw[this];rfl
 have hI0v:∃v0:Unit,r0.v=.map st.length:=by
  obtain⟨r,h1,h2⟩:=rec_of hop0;rw[hR0]at h1;cases h1;rcases h2 with⟨_,h,_⟩|⟨t,x,k,y,mi,_,_,h,_⟩
  ·obtain⟨_,_,_,hcase⟩:=stepR_parts h;rcases hcase with⟨_,_,hbl⟩|⟨_,v,s2,hop,hrv,_⟩
   ·rw[hmp']at hbl;cases hbl
   ·rw[hmk0]at hop;simp only[List.take_zero,memR,List.append_nil]at hop;have:=(Prod.mk.injEq ..▸(Option.some.inj hop)).1;refine⟨(),hrv.trans ?_⟩;rw[←this];cases capB ops o0<;>simp[capX]
  ·rw[hno0]at h;cases h
 have hd00:∃d0,r0.dst=some d0:=Option.isSome_iff_exists.1 hds0;have hIlt:∀x∈I,x.i<R.length:=by
  intro x hx;rw[hlen];exact hib x hx
 intro B W0 m a w F hF hA hr;have hsize:ops.size=R.length:=by rw[hlen];simp
 -- whatever has been listed, the rest goes through
 have key:∀(fuel:Nat) (listed:Array Bool) (a:Act) (w:World) (mS:List MB),listed.size=ops.size→(∀j o,ops[j]?=some o→listed.getD j false=true→∀e∈o.after,Region.binds .any e=true→listed.getD e.on false=true)→
   Inv B W0 m st f R (dstsOf ops) (fun j=>listed.getD j false=true) a w mS→Inv2 st I (fun j=>listed.getD j false) w mS→((List.range ops.size).filter (fun j=>!listed.getD j false)).length≤fuel→
   wpAnyIn F 0 P .any ops (Post B W0 m Q) fuel listed a w:=by
  intro fuel;have fin:∀(listed:Array Bool) (a:Act) (w:World) (mS:List MB),listed.size=ops.size→Inv B W0 m st f R (dstsOf ops) (fun j=>listed.getD j false=true) a w mS→Inv2 st I (fun j=>listed.getD j false) w mS→Region.ready .any ops listed=[]→Post B W0 m Q .normal a w:=by
   intro listed a w mS hsz hI hI2 hrd;have hS:∀j,j<R.length→listed.getD j false=true:=by
    intro j
    induction j using Nat.strongRecOn with
    |_ j ih=>
     intro hj;cases hl:listed.getD j false with
     |true=>rfl
     |false=>
      exfalso;have hjo:ops[j]?=some ops[j]:=Array.getElem?_eq_getElem (by omega);obtain⟨r,hr,hst⟩:=rec_of hjo;obtain⟨hlt,_⟩:=parts hst;have:j∈Region.ready .any ops listed:=mem_ready.2 ⟨by
       rw[Array.getD_eq_getD_getElem?]at hl ⊢;rw[Array.getElem?_eq_getElem (by omega)]at hl ⊢;exact hl,_,hjo,fun e he hbe=>ih e.on (by have:=hlt e he hbe;rw[List.length_take]at this;omega) (by have:=hlt e he hbe;rw[List.length_take]at this;omega)⟩
      rw[hrd]at this;cases this
   obtain⟨h1,h2⟩:=hI.all hS (fun j r d hj hd=>(hdsz j r d hj hd).1) (fun t ht=>by
    obtain⟨o,ho,hdo⟩:=List.mem_filterMap.1 ht;obtain⟨j,hj⟩:=List.mem_iff_getElem?.1 ho;obtain⟨r,hr',hst⟩:=rec_of (i:=j) (by simpa using hj);exact⟨j,r,hr',by rw[(parts hst).2.1];exact hdo⟩)
   have hsl:(st++blksR R)[st.length]?=some .mpu:=by
    rw[List.getElem?_append_right (Nat.le_refl _),Nat.sub_self];cases R with
    |nil=>cases hR0
    |cons x y=>
     simp only[List.getElem?_cons_zero,Option.some.injEq]at hR0;subst hR0;simp only[blksR,hmp'];rfl
   obtain⟨e,he,hok⟩:=h2.at hsl;obtain⟨v0,hv0⟩:=hI0v;obtain⟨d0,hd0⟩:=hd00;obtain⟨x,_,hx⟩:=hI.val 0 r0 d0 hR0 (hS 0 (List.getElem?_eq_some_iff.1 hR0).1) hd0;rw[hv0]at hx;obtain⟨e1,he1,_⟩:=real_map hx;have he2:at? mS st.length=some e1:=at_mono (fun b z hz=>by rw[List.getElem?_take]at hz;split at hz;exact hz;cases hz) he1;have:=at_get he2;rw[he]at this;cases this;obtain⟨es,c,ps,g1,g2,g3⟩:=hI2.map e he2;have hfil:(I.filter fun x=>listed.getD x.i false)=I:=by
    rw[List.filter_eq_self];intro x hx;exact hS x.i (hIlt x hx)
   rw[hfil]at g3;have hrel:=h2.update (b':=.mp (cellsM I)) hsl rfl he ⟨rfl,rfl,rfl,rfl,fun _ _=>rfl⟩ ⟨hok.1,es,c,_,g1,g3,ps,rfl,g2,cells_nodup I ps g3 hpw hkeys⟩;exact⟨mS,_,_,hI.ext,h1,hrel,hq⟩
  induction fuel with
  |zero=>
   intro listed a w mS hsz hcl hI hI2 hcnt;have hrd:Region.ready .any ops listed=[]:=by
    rw[List.eq_nil_iff_forall_not_mem];intro j hj;obtain⟨h1,o,ho,_⟩:=mem_ready.1 hj;have hlt:j<ops.size:=(Array.getElem?_eq_some_iff.1 ho).1;have:j∈(List.range ops.size).filter (fun j=>!listed.getD j false):=by
     rw[List.mem_filter,List.mem_range];refine⟨hlt,?_⟩;rw[Array.getD_eq_getD_getElem?,Array.getElem?_eq_getElem (by omega)]at h1 ⊢;simpa using h1
    have hnil:=List.eq_nil_of_length_eq_zero (Nat.le_zero.1 hcnt);rw[hnil]at this;cases this
   exact⟨hrd,fin listed a w mS hsz hI hI2 hrd⟩
  |succ fuel ih=>
   intro listed a w mS hsz hcl hI hI2 hcnt;refine⟨fin listed a w mS hsz hI hI2,fun i hi=>?_⟩;obtain⟨h1,o,ho,hedge⟩:=mem_ready.1 hi;have hlt:i<ops.size:=(Array.getElem?_eq_some_iff.1 ho).1;have hun:listed.getD i false=false:=by
    rw[Array.getD_eq_getD_getElem?,Array.getElem?_eq_getElem (by omega)]at h1 ⊢;exact h1
   obtain⟨r,hri,hst⟩:=rec_of ho;obtain⟨hlts,hdst,hanc⟩:=parts hst;have hancS:=closed (fun j=>listed.getD j false=true) hcl i r o hri ho hedge;obtain⟨hT,hrel⟩:=hI.look (i:=i) (anc:=r.anc) (by omega) hancS;have hget:∀j,(listed.setIfInBounds i true).getD j false=true↔(listed.getD j false=true∨j=i):=by
    intro j;simp only[Array.getD_eq_getD_getElem?,Array.getElem?_setIfInBounds];by_cases hji:i=j
    ·subst hji;simp[hsz,hlt]
    ·rw[if_neg hji];constructor
     ·exact fun h=>.inl h
     ·rintro(h|h)
      ·exact h
      ·exact absurd h.symm hji
   have next:∀(w1:World) (x:Value) (m':List MB) (s2:St) (w':World),Inv B W0 m st f R (dstsOf ops) (fun j=>listed.getD j false=true) a w1 mS→Ext (mS.take (st.length+lenR (R.take i))) m'→real m' r.v=some x→Rel w1.heap.size w1 m' s2 w'→r.blks=(s2.drop (st.length+lenR (R.take i))).map Blk.keep→
     (∀mN,AExt mS mN→(∀p,p<st.length+lenR (R.take (i+1))→mN[p]?=m'[p]?)→(0≠i→listed.getD 0 false=false→at? mN st.length=none)→Inv2 st I (fun j=>(listed.setIfInBounds i true).getD j false) w' mN)→
     wpAnyIn F 0 P .any ops (Post B W0 m Q) fuel (listed.setIfInBounds i true) (a.put o.dst x) w':=by
    intro w1 x m' s2 w' hI e1 e2 e3 e4 e5;obtain⟨mN,n1,n2,hN⟩:=hI.step hri (by rw[hun];simp) (fun j r' d hj hd hd'=>hdd i j r r' d hri hj hd hd') (fun d hd=>hdsz i r d hri hd) e1 e2 e3 e4;rw[hdst]at hN;refine ih _ _ _ mN (by simpa using hsz) ?_ ?_ (e5 mN n1 n2 fun hi0 h0=>htop hN (by rintro(h|h);exact absurd (h0.symm.trans h) (by simp);exact hi0 h)) ?_
    ·intro j o' hj hl e he hbe;rw[hget]at hl ⊢;rcases hl with hl|rfl
     ·exact .inl (hcl j o' hj hl e he hbe)
     ·rw[ho]at hj;cases hj;exact .inl (hedge e he hbe)
    ·have:(fun j=>(listed.setIfInBounds i true).getD j false=true)=(fun j=>listed.getD j false=true∨j=i):=funext fun j=>propext (hget j);rw[this];exact hN
    ·have hlt2:((List.range ops.size).filter (fun j=>!(listed.setIfInBounds i true).getD j false)).length<((List.range ops.size).filter (fun j=>!listed.getD j false)).length:=by
      have hsub:(List.range ops.size).filter (fun j=>!(listed.setIfInBounds i true).getD j false)=((List.range ops.size).filter (fun j=>!listed.getD j false)).filter (fun j=>j !=i):=by
       rw[List.filter_filter];apply List.filter_congr;intro j _;by_cases h3:j=i
       ·rw[(hget j).2 (.inr h3)];subst h3;simp
       ·cases h2:listed.getD j false with
        |true=>rw[(hget j).2 (.inl h2)];simp
        |false=>
         have h1:(listed.setIfInBounds i true).getD j false=false:=by
          cases h1:(listed.setIfInBounds i true).getD j false with
          |false=>rfl
          |true=>
            rcases(hget j).1 h1 with h|h
            ·rw[h2]at h;cases h
            ·exact absurd h h3
         rw[h1];simp[h3]
      rw[hsub];have hmem:i∈(List.range ops.size).filter (fun j=>!listed.getD j false):=by rw[List.mem_filter,List.mem_range];exact⟨hlt,by rw[hun];rfl⟩
      exact List.length_filter_lt_length_iff_exists.2 ⟨i,hmem,by simp⟩
     omega
   have hgetB:∀j,(listed.setIfInBounds i true).getD j false=(listed.getD j false||Nat.beq j i):=by
    intro j;have h1:=hget j;cases h2:Nat.beq j i with
    |true=>rw[h1.2 (.inr (Nat.eq_of_beq_eq_true h2))];simp
    |false=>
     have hne:j≠i:=fun e=>by subst e;rw[Nat.beq_refl]at h2;cases h2
     rw[Bool.or_false];cases h3:listed.getD j false with
     |true=>exact h1.2 (.inl h3)
     |false=>
      cases h4:(listed.setIfInBounds i true).getD j false with
      |false=>rfl
      |true=>
        rcases h1.1 h4 with h|h
        ·rw[h3]at h;cases h
        ·exact absurd h hne
   -- an operation that puts nothing in
   have plain:(∀x∈I,x.i≠i)→∀(m':List MB) (s2:St) (w':World),Rel w.heap.size w m' s2 w'→(i=0→s2[st.length]?=some (.mp []))→
     ∀mN,AExt mS mN→(∀p,p<st.length+lenR (R.take (i+1))→mN[p]?=m'[p]?)→(0≠i→listed.getD 0 false=false→at? mN st.length=none)→Inv2 st I (fun j=>(listed.setIfInBounds i true).getD j false) w' mN:=by
    intro hni m' s2 w' hrel2 hs2 mN n1 n2 n3;have hf:(I.filter fun x=>(listed.setIfInBounds i true).getD x.i false)=I.filter fun x=>listed.getD x.i false:=by
     apply List.filter_congr;intro x hx;rw[hgetB];have:Nat.beq x.i i=false:=by cases hb:Nat.beq x.i i with
      |false=>rfl
      |true=>exact absurd (Nat.eq_of_beq_eq_true hb) (hni x hx)
     rw[this,Bool.or_false]
    refine⟨fun e he=>?_,fun x hx hl=>?_⟩
    ·simp only[hf];cases h0:listed.getD 0 false with
     |true=>
      obtain⟨v0,hv0⟩:=hI0v;obtain⟨d0,hd0⟩:=hd00;obtain⟨y,_,hy⟩:=hI.val 0 r0 d0 hR0 h0 hd0;rw[hv0]at hy;obtain⟨e1,he1,_⟩:=real_map hy;have he2:at? mS st.length=some e1:=at_mono (fun b z hz=>by rw[List.getElem?_take]at hz;split at hz;exact hz;cases hz) he1;have:=n1 _ _ he2;rw[he]at this;cases this;obtain⟨es,c,ps,g1,g2,g3⟩:=hI2.map e he2;exact⟨es,c,ps,(hrel2.below.block _ (Array.getElem?_eq_some_iff.1 g1).1).trans g1,g2,realL_amono n1 _ _ g3⟩
     |false=>
      by_cases hi0:i=0
      ·subst hi0;have hlen0:st.length<st.length+lenR (R.take (0+1)):=by
        have:=lenR_take_succ hR0;rw[hmp']at this;simp only[List.take_zero,lenR,List.length_cons,List.length_nil]at this;omega
       have hmm:=at_get he;rw[n2 _ hlen0]at hmm;obtain⟨e',h5,h6⟩:=hrel2.at (hs2 rfl);rw[hmm]at h5;cases h5;obtain⟨_,es,c,xs,g1,g2,ps,g3,g4,_⟩:=h6;simp only[realL,Option.some.injEq]at g2;subst g2;have hps:=flatP_nil g3;subst hps;have hfe:(I.filter fun x=>listed.getD x.i false)=[]:=by
        rw[List.filter_eq_nil_iff];intro x hx hl;have:=hI2.first x hx hl;rw[h0]at this;cases this
       rw[hfe];exact⟨es,c,[],g1,g4,rfl⟩
      ·rw[n3 (fun h=>hi0 h.symm) h0]at he;cases he
    ·have hl2:=(hget x.i).1 hl;rcases hl2 with hl2|hl2
     ·exact(hget 0).2 (.inl (hI2.first x hx hl2))
     ·exact absurd hl2 (hni x hx)
   unfold wpOpIn;rw[ho];rcases hst with⟨hins,hstep,hni⟩|⟨t,xo,ko,yo,mi,hmi,hmii,hins,hstep⟩
   ·obtain⟨_,_,_,hcase⟩:=stepR_parts hstep;rcases hcase with⟨hg,hv,hbl⟩|⟨hg,v,s2,hop,hrv,hbl⟩
    ·have hlen2:(R.take i).length=i:=by rw[List.length_take];omega
     simp only
     rw[if_neg (by rw[guardT_ok hT hg];simp)];refine⟨fun g _=>hF.fn g,?_⟩;refine next w undef _ _ w hI (Ext.refl _) (by rw[hv];rfl) hrel (by rw[hbl,List.drop_eq_nil_of_le (by simp[memR_len])];rfl) (plain hni _ _ w hrel fun h0=>?_)
     subst h0;rw[hR0]at hri;cases hri;rw[hmp']at hbl;cases hbl
    ·simp only
     rw[if_pos (guardT_ok hT hg)];refine opValC_upon (ops:=ops) hc hF hT hrel hop (noDefer_spec hnd ho) ?_;intro x m' w' e1 e2 e3;refine next w x m' s2 w' hI e1 (by rw[hrv];exact e2) e3 hbl (plain hni m' s2 w' e3 fun h0=>?_)
     subst h0;rw[hop0]at ho;cases ho;rw[hmk0]at hop;simp only[List.take_zero,memR,List.append_nil]at hop;have:s2=st.map Blk.toRo++[.mp []]:=by
      have:=(Prod.mk.injEq ..▸(Option.some.inj hop)).2;exact this.symm
     rw[this,List.getElem?_append_right (by simp)];simp
   ·obtain⟨_,_,_,hv,hbl,hg,_,hkv,hx,hk,hy,kt,et,hu,hd⟩:=stepI_parts hstep;have hopi:=insOp_spec hins;simp only
    rw[if_pos (guardT_ok hT hg)];have hρ:∀x v,ev (frameR f (dstsOf ops) r.anc (R.take i)) x=some v→real (mS.take (st.length+lenR (R.take i))) v=some (a.eval x):=by
     intro x v hv;cases x with
     |tmp t=>
      obtain⟨y,h1,h2⟩:=hT t v hv;rw[h2];simp[Act.eval,Array.getD_eq_getD_getElem?,h1]
     |const c=>exact real_ofConst _ hv
     |global g=>exact ev_global hv
     |func f=>simp only[ev,Option.some.injEq]at hv;subst hv;simp[real,realL,Act.eval]
    have htk:Ext (mS.take (st.length+lenR (R.take i))) mS:=fun b z hz=>by
     rw[List.getElem?_take]at hz;split at hz
     ·exact hz
     ·cases hz
    obtain⟨e,he,hxe⟩:=real_map (hρ _ _ hx);have heS:=at_mono htk he;have hkx:=real_mono htk _ _ (hρ _ _ hk);have hyx:=real_mono htk _ _ (hρ _ _ hy);have hl0:listed.getD 0 false=true:=by
     cases h0:listed.getD 0 false with
     |true=>rfl
     |false=>
      have:=htop hI (by rw[h0];simp);rw[heS]at this;cases this
    obtain⟨es,c,ps,g1,g2,g3⟩:=hI2.map e heS;have hkey:=keyV_ok hkv hkx;have hall2:∀p∈ps,MapKept.IsKey mi.d p.1∧p.1≠a.eval ko:=by
     intro p hp;obtain⟨z,hz,hzk⟩:=cells_mem _ ps g3 p hp;rw[List.mem_filter]at hz;have hne:z.i≠mi.i:=by
      intro e1;rw[e1,hmii,hun]at hz;exact absurd hz.2 (by simp)
     rcases Nat.lt_or_gt_of_ne hne with hlt2|hlt2
     ·obtain⟨k1,_,k3⟩:=mi_ne (hkeys z hz.1) hkv (pw_get hpw z hz.1 mi hmi hlt2) hzk hkx;exact⟨k1,k3⟩
     ·obtain⟨_,k2,k3⟩:=mi_ne hkv (hkeys z hz.1) (pw_get hpw mi hmi z hz.1 hlt2) hkx hzk;exact⟨k2,fun e=>k3 e.symm⟩
    have hes:∀x∈es.toList,MapKept.IsKey mi.d x.key∧x.key≠a.eval ko:=fun x hxm=>hall2 (x.key,x.val) (g2.mem_iff.1 (List.mem_map.2 ⟨x,hxm,rfl⟩));have hfind:Instr.findNow mi.d (a.eval ko) es.toList 0=some none:=by
     rcases MapKept.findNow_spec hkey es.toList 0 (fun x hxm=>(hes x hxm).1)with⟨f1,_⟩|⟨j,e0,_,f2,f3⟩
     ·exact f1
     ·exact absurd f3 (hes e0 (List.mem_of_getElem? f2)).2
    have hrun:(Instr.mapUpdate t (.map (some e.blk)) (a.eval ko) (a.eval yo)).run P w=.ok () {w with heap:=w.heap.setIfInBounds e.blk (.map (es.push {key:=a.eval ko,val:=a.eval yo,born:=c}) (c+1))}:=by
     simp[Instr.mapUpdate,run_underlying hu,MapKept.run_getObj_map g1,MapKept.run_checkKey (P:=P) (w:=w) hd hkey false 9999,MapKept.run_findKey hd hfind,MapKept.run_setObj_map _ g1,Result.andThen]
    have hexec:(execOp a.eval o).run P w=.ok .skip {w with heap:=w.heap.setIfInBounds e.blk (.map (es.push {key:=a.eval ko,val:=a.eval yo,born:=c}) (c+1))}:=by
     simp only[execOp,hopi,hxe];simp[hrun]
    have hI':=hI.poke (es':=es.push {key:=a.eval ko,val:=a.eval yo,born:=c}) (c':=c+1) hR0 hmp' hl0 (at_get heS) g1;obtain⟨_,hrel'⟩:=hI'.look (i:=i) (anc:=r.anc) (by omega) hancS;refine⟨fun g _=>hF.fn g,?_⟩;rw[Oper.semAt_eq _ _ _ (noDefer_spec hnd ho),hexec,Oper.uponIn_skip];refine next _ undef _ _ _ hI' (Ext.refl _) (by rw[hv];rfl) hrel' (by rw[hbl,List.drop_eq_nil_of_le (by simp[memR_len])];rfl) ?_
    intro mN n1 n2 n3;refine⟨fun e' he'=>?_,fun x hx hl=>(hget 0).2 (.inl hl0)⟩;have:=n1 _ _ heS;rw[he']at this;cases this;obtain⟨ps',q1,q2⟩:=cells_put (L:=fun j=>listed.getD j false) (L':=fun j=>(listed.setIfInBounds i true).getD j false) hgetB hun hmii hkx hyx I ps hpw hmi g3;refine⟨es.push {key:=a.eval ko,val:=a.eval yo,born:=c},c+1,ps',by simp[(Array.getElem?_eq_some_iff.1 g1).1],?_,realL_amono n1 _ _ q1⟩;rw[Array.toList_push,List.map_append];exact(g2.append_right _).trans q2.symm
 refine wpIn_region_any hm (key ops.size (Array.replicate ops.size false) a _ (m++List.replicate (lenR R) hole) (by simp) ?_ ?_ ?_ ?_)
 ·intro j o hj hl;simp[Array.getD_eq_getD_getElem?,Array.getElem?_replicate]at hl;split at hl<;>simp at hl
 ·have hno:∀j,¬((Array.replicate ops.size false).getD j false=true):=by
   intro j hl;simp[Array.getD_eq_getD_getElem?,Array.getElem?_replicate]at hl;split at hl<;>simp at hl
  refine⟨by simp[hr.len],fun b e hb=>?_,hr.drew',fun j r _ hS=>absurd hS (hno j),fun j r hj _ k hk=>?_,?_,hA.tmps.1,fun j r d _ hS=>absurd hS (hno j),fun t v _ hv=>hA.tmps.2 t v hv,hA.defers⟩
  ·rw[List.getElem?_append_left (List.getElem?_eq_some_iff.1 hb).1];exact hb
  ·have h1:=lenR_take_succ hj;have h2:=lenR_take_le R (i:=j+1) (j:=R.length) (by have:=(List.getElem?_eq_some_iff.1 hj).1;omega);rw[List.take_length]at h2;rw[List.getElem?_append_right (by rw[hr.len];omega),List.getElem?_replicate,if_pos (by rw[hr.len];omega)]
  ·intro i i' b b' e e' hii hb hrw hb' hlv hi hi';rcases hb with hb|⟨j,_,_,_,hS,_⟩
   ·rcases hb' with hb'|⟨j,_,_,_,hS,_⟩
    ·have l1:=(List.getElem?_eq_some_iff.1 hb).1;have l2:=(List.getElem?_eq_some_iff.1 hb').1;rw[List.getElem?_append_left (by rw[hr.len];exact l1)]at hi;rw[List.getElem?_append_left (by rw[hr.len];exact l2)]at hi';exact hr.inj i i' b b' e e' hii hb hrw hb' hlv hi hi'
    ·exact absurd hS (hno j)
   ·exact absurd hS (hno j)
 ·have hno:∀j,(Array.replicate ops.size false).getD j false=false:=by
   intro j;simp[Array.getD_eq_getD_getElem?,Array.getElem?_replicate];split<;>simp
  refine⟨fun e he=>?_,fun x hx hl=>by rw[hno]at hl;cases hl⟩;have hlen1:0<lenR R:=by
   have h1:=lenR_take_succ hR0;have h2:=lenR_take_le R (i:=0+1) (j:=R.length) (List.getElem?_eq_some_iff.1 hR0).1;rw[List.take_length]at h2;rw[hmp']at h1;simp only[List.take_zero,lenR,List.length_cons,List.length_nil]at h1;omega
  unfold at? at he;rw[List.getElem?_append_right (by rw[hr.len];exact Nat.le_refl _),hr.len,Nat.sub_self,List.getElem?_replicate,if_pos hlen1]at he;simp[hole]at he
 ·have:=List.length_filter_le (fun j=>!(Array.replicate ops.size false).getD j false) (List.range ops.size);simpa using this
end
end Go.Vm
namespace Go.Vm
variable [G:Glob] [Φ:Frz]
set_option linter.unusedSectionVars false
set_option linter.unusedVariables false
open Go.RowKit
structure RF where
 r:Rec
 fp:List (Nat×Bool)
 mem:St
 mkr:Bool
 all:Bool
def recsF(l:List RF):List Rec:=l.map (·.r)
def ordB(b:Nat)(w:Bool)(anc:Nat):Nat→List RF→Bool
 |_,[]=>true
 |k,x::r=>(Nat.testBit anc k||(!(w&&x.all)&&x.fp.all (fun q=>!(Nat.beq q.1 b&&(w||q.2)))))&&ordB b w anc (k+1) r
theorem ordB_spec{b:Nat}{w:Bool}{anc:Nat}:∀{l:List RF} {k:Nat},ordB b w anc k l=true→∀q y,l[q]?=some y→((∃w',(b,w')∈y.fp∧(w||w')=true)∨(w=true∧y.all=true))→Nat.testBit anc (k+q)=true
 |[],k,_,q,y,h,_=>by simp at h
 |x::r,k,h,q,y,hq,hf=>by
  simp only[ordB,Bool.and_eq_true]at h;cases q with
  |zero=>
   simp only[List.getElem?_cons_zero,Option.some.injEq]at hq;subst hq;rcases Bool.or_eq_true _ _▸h.1 with h1|h1
   ·simpa using h1
   ·rw[Bool.and_eq_true]at h1;rcases hf with⟨w',hf,hw⟩|⟨hw,ha⟩
    ·have:=List.all_eq_true.1 h1.2 (b,w') hf;simp[hw]at this
    ·rw[hw,ha]at h1;have:=h1.1;simp at this
  |succ q=>
   have:=ordB_spec h.2 q y (by simpa using hq) hf;rwa [show k+1+q=k+(q+1) by omega]at this
def ordA(anc:Nat):Nat→List RF→Bool
 |_,[]=>true
 |k,x::r=>(Nat.testBit anc k||x.fp.all (fun q=>!q.2))&&ordA anc (k+1) r
theorem ordA_spec{anc:Nat}:∀{l:List RF} {k:Nat},ordA anc k l=true→∀q y b,l[q]?=some y→(b,true)∈y.fp→Nat.testBit anc (k+q)=true
 |[],k,_,q,y,b,h,_=>by simp at h
 |x::r,k,h,q,y,b,hq,hf=>by
  simp only[ordA,Bool.and_eq_true]at h;cases q with
  |zero=>
   simp only[List.getElem?_cons_zero,Option.some.injEq]at hq;subst hq;rcases Bool.or_eq_true _ _▸h.1 with h1|h1
   ·simpa using h1
   ·have:=List.all_eq_true.1 h1 (b,true) hf;simp at this
  |succ q=>
   have:=ordA_spec h.2 q y b (by simpa using hq) hf;rwa [show k+1+q=k+(q+1) by omega]at this
def ordF(fp:List (Nat×Bool))(anc:Nat)(l:List RF):Bool:=fp.all fun q=>ordB q.1 q.2 anc 0 l
def atF(s:St)(b:Nat):Blk:=(s[b]?).getD .dead
theorem atF_some{s:St}{b:Nat}{k:Blk}(h:s[b]?=some k):atF s b=k:=by unfold atF;rw[h];rfl
theorem atF_none{s:St}{b:Nat}(h:s.length≤b):atF s b=.dead:=by unfold atF;rw[List.getElem?_eq_none h];rfl
theorem atF_get{s:St}{b:Nat}(h:b<s.length):s[b]?=some (atF s b):=by unfold atF;rw[List.getElem?_eq_getElem h];rfl
theorem atF_set{s:St}{b c:Nat}{k:Blk}(h:b<s.length):atF (s.set b k) c=if c=b then k else atF s c:=by
 unfold atF;rw[List.getElem?_set];split
 ·rename_i e;subst e;rw[if_pos rfl];rfl
 ·rename_i e;rw[if_neg fun q=>e q.symm]
theorem atF_snoc{s:St}{k:Blk}{c:Nat}:atF (s++[k]) c=if c=s.length then k else atF s c:=by
 unfold atF;rcases Nat.lt_trichotomy c s.length with h|h|h
 ·rw[List.getElem?_append_left h,if_neg (by omega)]
 ·subst h;simp
 ·rw[List.getElem?_eq_none (by simp;omega),List.getElem?_eq_none (by omega),if_neg (by omega)]
theorem Rel.pad1{B:Nat}{W0 w:World}{m:List MB}{st:St}(h:Rel B W0 m st w):Rel B W0 (m++[hole]) (st++[.dead]) w:=by
 have old:∀{j:Nat} {c:Blk},(st++[Blk.dead])[j]?=some c→c.live=true→st[j]?=some c:=by
  intro j c hj hl;rcases Nat.lt_trichotomy j st.length with h'|h'|h'
  ·rwa [List.getElem?_append_left h']at hj
  ·subst h';simp at hj;subst hj;simp[Blk.live]at hl
  ·rw[List.getElem?_eq_none (by simp;omega)]at hj;cases hj
 have oldm:∀{j:Nat} {c:Blk} {e:MB},st[j]?=some c→(m++[hole])[j]?=some e→m[j]?=some e:=by
  intro j c e hj he;have:=(List.getElem?_eq_some_iff.1 hj).1;rwa [List.getElem?_append_left (by rw[h.len];exact this)]at he
 refine⟨by simp[h.len],h.base,h.below,fun i b e hi he=>?_,fun i j b c d e hij hi hb hj hc hd he=>?_,h.glob⟩
 ·cases hl:b.live with
  |false=>cases b<;>first|trivial|cases hl
  |true=>exact(h.blk i b e (old hi hl) (oldm (old hi hl) he)).mono (Ext.snoc m _)
 ·have hi:=old hi (rw_live b hb);have hj:=old hj hc;exact h.inj i j b c d e hij hi hb hj hc (oldm hi hd) (oldm hj he)
def holesF(n:Nat):List MB:=List.replicate n hole
def deadsF(n:Nat):St:=List.replicate n .dead
theorem Rel.pad{B:Nat}{W0 w:World}{st:St}:∀(n:Nat) {m:List MB} (_:Rel B W0 m st w),Rel B W0 (m++holesF n) (st++deadsF n) w
 |0,m,h=>by simpa[holesF,deadsF]using h
 |n+1,m,h=>by
  have:=(Rel.pad n h).pad1;rwa [List.append_assoc,List.append_assoc,show holesF n++[hole]=holesF (n+1) by unfold holesF;rw[List.replicate_succ'],show deadsF n++[.dead]=deadsF (n+1) by unfold deadsF;rw[List.replicate_succ']]at this
theorem Rel.unpad{B:Nat}{W0 w:World}{m:List MB}{st:St}(h:Rel B W0 m st w){n:Nat}(hn:n≤st.length)(hm:∀b d,n≤b→m[b]?=some d→d.hole=true):Rel B W0 (m.take n) (st.take n) w:=by
 have ext:AExt m (m.take n):=fun b x hb=>by
  have hlt:b<n:=by
   rcases Nat.lt_or_ge b n with h'|h'
   ·exact h'
   ·have:=hm b x h' (at_get hb);rw[at_solid hb]at this;cases this
  exact at_of (by rw[List.getElem?_take,if_pos hlt];exact at_get hb) (at_solid hb)
 have up:∀{j:Nat} {c:Blk},(st.take n)[j]?=some c→st[j]?=some c:=fun hj=>by
  rw[List.getElem?_take]at hj;split at hj
  ·exact hj
  ·cases hj
 have upm:∀{j:Nat} {c:MB},(m.take n)[j]?=some c→m[j]?=some c:=fun hj=>by
  rw[List.getElem?_take]at hj;split at hj
  ·exact hj
  ·cases hj
 exact⟨by rw[List.length_take,List.length_take,h.len],h.base,h.below,fun j c d hj hd=>(h.blk j c d (up hj) (upm hd)).amono ext,fun j j' c c' d d' hjj hj hc hj' hc' hd hd'=>h.inj j j' c c' d d' hjj (up hj) hc (up hj') hc' (upm hd) (upm hd'),h.glob⟩
def flatB:Blk→Bool
 |.row cs _ _=>flatL cs
 |_=>false
theorem Rel.move{B:Nat}{W0 w w':World}{m m':List MB}{st st1:St}{i:Nat}{e:MB}{k:Blk}(h0:Rel B W0 m st w)(h:Rel B W0 m' (st1++[k]) w')(hx:Ext m m')(hl:st1.length=st.length)(he:m'[st.length]?=some e)
  (hi:m[i]?=some hole)(hs1:st1[i]?=some .dead)(hsame:∀b:Nat,st1[b]?=st[b]?∨st1[b]?=some Blk.dead)(hk:flatB k=true):Rel B W0 (m.set i e) (st1.set i k) w':=by
 have him:i<m.length:=(List.getElem?_eq_some_iff.1 hi).1;have hml:m.length=st.length:=h0.len;have hm':m'.length=st.length+1:=by have:=h.len;simpa[hl]using this
 have ext:AExt m (m.set i e):=fun b x hb=>by
  have hne:b≠i:=by
   rintro rfl;have:=at_get hb;rw[hi]at this;cases this;have:=at_solid hb;simp[hole]at this
  exact at_of (by rw[List.getElem?_set_ne fun q=>hne q.symm];exact at_get hb) (at_solid hb)
 have old:∀{j:Nat} {d:MB},m[j]?=some d→m'[j]?=some d:=fun hj=>hx _ _ hj;have get:∀{j:Nat} {c:Blk},(st1.set i k)[j]?=some c→(j≠i∧st1[j]?=some c)∨(j=i∧c=k):=by
  intro j c hj;rw[List.getElem?_set]at hj;split at hj
  ·rename_i hh;split at hj
   ·cases hj;exact .inr ⟨hh.symm,rfl⟩
   ·cases hj
  ·rename_i hne;exact .inl ⟨fun e=>hne e.symm,hj⟩
 have getm:∀{j:Nat} {d:MB},(m.set i e)[j]?=some d→(j≠i∧m[j]?=some d)∨(j=i∧d=e):=by
  intro j c hj;rw[List.getElem?_set]at hj;split at hj
  ·cases hj;rename_i hh;exact .inr ⟨hh.symm,rfl⟩
  ·rename_i hne;exact .inl ⟨fun e=>hne e.symm,hj⟩
 have up:∀{j:Nat} {c:Blk},st1[j]?=some c→(st1++[k])[j]?=some c:=fun hj=>by
  rw[List.getElem?_append_left (List.getElem?_eq_some_iff.1 hj).1];exact hj
 have last:(st1++[k])[st.length]?=some k:=by rw[←hl];simp
 have lt1:∀{j:Nat} {c:Blk},st1[j]?=some c→j<st.length:=fun hj=>by rw[←hl];exact(List.getElem?_eq_some_iff.1 hj).1
 have klive:k.live=true:=by
  unfold flatB at hk;split at hk
  ·rfl
  ·cases hk
 have krw:k.rw=true:=by
  unfold flatB at hk;split at hk
  ·rfl
  ·cases hk
 refine⟨by simp[hl,hml],h.base,h.below,fun j c d hj hd=>?_,fun j j' c c' d d' hjj hj hc hj' hc' hd hd'=>?_,h.glob⟩
 ·rcases get hj with⟨hne,hj1⟩|⟨e1,e2⟩
  ·rcases getm hd with⟨_,hd1⟩|⟨q,_⟩
   ·rcases hsame j with hs|hs
    ·rw[hs]at hj1;exact(h.blk j c d (up (by rw[hs];exact hj1)) (old hd1)).back (h0.blk j c d hj1 hd1) hx.a ext
    ·rw[hs]at hj1;cases hj1;trivial
   ·exact absurd q hne
  ·rcases getm hd with⟨q,_⟩|⟨_,e3⟩
   ·exact absurd e1 q
   ·subst e2 e3;have hb:=h.blk st.length c d last he;unfold flatB at hk;split at hk
    ·obtain⟨a1,a2,arr,xs,a3,a4,a5⟩:=hb;exact⟨a1,a2,arr,xs,a3,realL_flat _ _ hk a4,a5⟩
    ·cases hk
 ·rcases get hj with⟨hne,hj1⟩|⟨e1,e2⟩
  ·rcases getm hd with⟨_,hd1⟩|⟨q,_⟩
   ·rcases get hj' with⟨hne',hj2⟩|⟨e3,e4⟩
    ·rcases getm hd' with⟨_,hd2⟩|⟨q,_⟩
     ·exact h.inj j j' c c' d d' hjj (up hj1) hc (up hj2) hc' (old hd1) (old hd2)
     ·exact absurd q hne'
    ·rcases getm hd' with⟨q,_⟩|⟨_,e5⟩
     ·exact absurd e3 q
     ·subst e4 e5;exact h.inj j st.length c c' d d' (by have:=lt1 hj1;omega) (up hj1) hc last hc' (old hd1) he
   ·exact absurd q hne
  ·rcases getm hd with⟨q,_⟩|⟨_,e5⟩
   ·exact absurd e1 q
   ·rcases get hj' with⟨hne',hj2⟩|⟨e3,e4⟩
    ·rcases getm hd' with⟨_,hd2⟩|⟨q,_⟩
     ·subst e2 e5;exact h.inj st.length j' c c' d d' (by have:=lt1 hj2;omega) last hc (up hj2) hc' he (old hd2)
     ·exact absurd q hne'
    ·exact absurd (e1.trans e3.symm) hjj
theorem load_at{P:Program}{st st':St}{t:TypeId}{b off:Nat}(h:st[b]?=st'[b]?):loadV P st t b off=loadV P st' t b off:=by
 unfold loadV blkCells;rw[h]
theorem store_lt{P:Program}{st s1:St}{t:TypeId}{b off:Nat}{v:V}(hs:storeV P st t (.ptr b off) v=some s1):b<st.length:=by
 unfold storeV at hs;split at hs
 ·rename_i hp _;cases hp;split at hs
  ·rename_i hb;exact(List.getElem?_eq_some_iff.1 hb).1
  ·cases hs
 ·cases hs
theorem store_at{P:Program}{st st' s1:St}{t:TypeId}{b off:Nat}{v:V}(h:st[b]?=st'[b]?)(hs:storeV P st t (.ptr b off) v=some s1):∃k,s1=st.set b k∧storeV P st' t (.ptr b off) v=some (st'.set b k):=by
 unfold storeV at hs ⊢;cases hsz:sizeV P t with
 |none=>simp[hsz]at hs
 |some s=>
  simp only[hsz]at hs ⊢;rw[←h];split at hs
  ·rename_i cs te sz hb;split at hs
   ·rename_i hc;cases hs;refine⟨_,rfl,?_⟩;rw[if_pos hc]
   ·cases hs
  ·cases hs
def lastFlat(cur':St)(n:Nat):Bool:=match cur'[n]? with
 |some k=>flatB k
 |none=>false
def fpS:V→List (Nat×Bool)
 |.slice b _ _ _ _ _=>[(b,false)]
 |_=>[]
def fpD:V→List (Nat×Bool)
 |.slice b _ _ true _ _=>[(b,false)]
 |.slice b _ _ false _ _=>[(b,true)]
 |_=>[]
def emptyX:V→Bool
 |.nilSlice=>true
 |.slice _ _ n _ _ _=>Nat.beq n 0
 |.lst _ n _=>Nat.beq n 0
 |_=>false
def stepF(P:Program)(call:Call)(T:Nat→Option V)(cur:St)(op:Op):Option (V×List (Nat×Bool)×Bool×St):=match op with
 |.load t x=>match ev T x with
  |some (.ptr b off)=>match loadV P cur t b off with
   |some v=>some (v,[(b,false)],false,cur)
   |none=>none
  |_=>none
 |.store t x y=>match ev T x,ev T y with
  |some (.ptr b off),some v=>match storeV P cur t (.ptr b off) v with
   |some cur'=>some (.tuple [],[(b,true)],false,cur')
   |none=>none
  |_,_=>none
 |.alloc t=>match zeroV P t with
  |some z=>bif flatL z.cells then some (.ptr cur.length 0,[(cur.length,true)],true,cur++[.row z.cells t z.cells.length])else none
  |none=>none
 |.buildSlice t len parts=>match evParts (ev T) parts.toList with
  |some ps=>match buildSliceV P cur t len ps with
   |some (v,cur')=>bif lastFlat cur' cur.length then some (v,[(cur.length,true)],true,cur')else none
   |none=>none
  |none=>none
 |.call {callee:=.builtin .append,args,argTypes}=>match argTypes.toList,evL (ev T) args.toList with
  |[t,t'],some [s,x]=>if t=t' then(match appendV P cur t s x with
   |some (v,cur')=>bif isApp cur cur' then(bif lastFlat cur' cur.length then some (v,fpS x++(fpD s++[(cur.length,true)]),true,cur')else none)
    else bif emptyX x then some (v,[],false,cur)else none
   |none=>none)else none
  |_,_=>none
 |op=>bif noMemB op then
   match pureOp P cur (ev T) op with
   |some v=>some (v,[],false,cur)
   |none=>none
  else match opVal P call T cur op with
   |some (v,_)=>bif pcallB T op v then some (v,[],false,cur)else none
   |none=>none
def nameOk(v v':V)(a b:Nat):Prop:=(∃o,v=.ptr a o∧v'=.ptr b o)∨∃o l ex c z,v=.slice a o l ex c z∧v'=.slice b o l ex c z
def StepN(P:Program)(call:Call)(T:Nat→Option V)(op:Op)(v:V)(fp:List (Nat×Bool))(cur cur':St):Prop:=
 ∀MS:St,cur'.length≤MS.length→(∀q∈fp,q.1<cur.length→MS[q.1]?=cur[q.1]?)→
  ∃MS1,opVal P call T MS op=some (v,MS1)∧MS1.length=MS.length∧(∀b,(b,true)∈fp→atF MS1 b=atF cur' b)∧∀b,(b,true)∉fp→MS1[b]?=MS[b]?
def StepM(P:Program)(call:Call)(T:Nat→Option V)(op:Op)(v:V)(fp:List (Nat×Bool))(cur cur':St):Prop:=
 ∀MS:St,cur'.length≤MS.length→(∀q∈fp,q.1<cur.length→MS[q.1]?=cur[q.1]?)→
  ∃MS1 k v',opVal P call T MS op=some (v',MS1++[k])∧MS1.length=MS.length∧flatB k=true∧nameOk v v' cur.length MS.length∧atF cur' cur.length=k∧
   (∀b,b≠cur.length→(b,true)∈fp→MS1[b]?=some .dead∧atF cur' b=.dead)∧(∀b,b=cur.length∨(b,true)∉fp→MS1[b]?=MS[b]?)
def StepOk(P:Program)(call:Call)(T:Nat→Option V)(op:Op)(v:V)(fp:List (Nat×Bool))(mk:Bool)(cur cur':St):Prop:=
 (∀q∈fp,q.1<cur'.length)∧(∀b,(b,true)∉fp→atF cur' b=atF cur b)∧
 ((mk=true∧cur'.length=cur.length+1∧(cur.length,true)∈fp∧StepM P call T op v fp cur cur')∨(mk=false∧cur'.length=cur.length∧StepN P call T op v fp cur cur'))
theorem lastFlat_spec{cur cur1:St}{k:Blk}(hl:cur1.length=cur.length)(h:lastFlat (cur1++[k]) cur.length=true):flatB k=true:=by
 unfold lastFlat at h;rw[←hl]at h;simpa using h
theorem blk_at{st st':St}{b off n:Nat}(h:st[b]?=st'[b]?):blkCells st b off n=blkCells st' b off n:=by unfold blkCells;rw[h]
theorem blk_lt{st:St}{b off n:Nat}{l:List V}(h:blkCells st b off n=some l):b<st.length:=by
 unfold blkCells at h;split at h
 ·rename_i k hk;exact(List.getElem?_eq_some_iff.1 hk).1
 ·cases h
theorem load_lt{P:Program}{st:St}{t:TypeId}{b off:Nat}{v:V}(h:loadV P st t b off=some v):b<st.length:=by
 rcases Nat.lt_or_ge b st.length with hb|hb
 ·exact hb
 ·exfalso;have hnone:st[b]?=none:=List.getElem?_eq_none hb;unfold loadV blkCells at h;simp only[hnone]at h;split at h
  ·split at h<;>cases h
  ·cases h
  ·cases h
theorem news_at{cur MS:St}{sz:Nat}{x:V}{n:Nat}{nc:List V}(h:newsV cur sz x=some (n,nc))(hf:∀q∈fpS x,q.1<cur.length→MS[q.1]?=cur[q.1]?):newsV MS sz x=some (n,nc):=by
 cases x with
 |slice b off k ex c z=>
  cases k with
  |zero=>exact h
  |succ k=>
   simp only[newsV]at h ⊢;cases hb:blkCells cur b off ((k+1)*sz)with
   |none=>rw[hb]at h;cases h
   |some l=>
    rw[hb]at h;rw[blk_at (hf (b,false) (by simp[fpS]) (blk_lt hb)),hb];exact h
 |_=>exact h
theorem news_empty{st:St}{sz:Nat}{x:V}(h:emptyX x=true):newsV st sz x=some (0,[]):=by
 unfold emptyX at h;split at h
 ·rfl
 ·have:=Nat.eq_of_beq_eq_true h;subst this;rfl
 ·have:=Nat.eq_of_beq_eq_true h;subst this;rfl
 ·cases h
theorem append_empty{P:Program}{cur cur' MS:St}{t:TypeId}{s x v:V}(h:appendV P cur t s x=some (v,cur'))(hx:emptyX x=true):appendV P MS t s x=some (v,MS):=by
 unfold appendV at h ⊢;split at h
 ·rename_i e hu;split at h
  ·rename_i i z hi hz;split at h
   ·rename_i hc;rw[news_empty hx]at h;simp only[hi,hz,if_pos hc,news_empty hx];simp only at h;split at h<;>first|(cases h;rfl)|cases h
   ·cases h
  ·cases h
 ·cases h
theorem append_any{P:Program}{cur cur':St}{t:TypeId}{s x v:V}(h:appendV P cur t s x=some (v,cur'))(happ:isApp cur cur'=true)(hlf:lastFlat cur' cur.length=true){MS:St}(hle:cur.length≤MS.length)
  (hf:∀q∈fpS x++fpD s,q.1<cur.length→MS[q.1]?=cur[q.1]?):
  (∀q∈fpS x++fpD s,q.1<cur.length)∧
  (∀b,(b,true)∉fpD s→b≠cur.length→atF cur' b=atF cur b)∧
  ∃MS1 k v',appendV P MS t s x=some (v',MS1++[k])∧MS1.length=MS.length∧flatB k=true∧nameOk v v' cur.length MS.length∧atF cur' cur.length=k∧
   (∀b,(b,true)∈fpD s→MS1[b]?=some .dead∧atF cur' b=.dead)∧(∀b,(b,true)∉fpD s→MS1[b]?=MS[b]?):=by
 have hlen:cur'.length=cur.length+1:=Nat.eq_of_beq_eq_true happ;have hfS:∀q∈fpS x,q.1<cur.length→MS[q.1]?=cur[q.1]?:=fun q hq=>hf q (List.mem_append.2 (.inl hq));have hfD:∀q∈fpD s,q.1<cur.length→MS[q.1]?=cur[q.1]?:=fun q hq=>hf q (List.mem_append.2 (.inr hq));unfold appendV at h ⊢;split at h
 ·rename_i e hu;split at h
  ·rename_i i z hi hz;split at h
   ·rename_i hc;split at h
    ·exfalso;split at h
     ·cases h;omega
     ·cases h;omega
     ·cases h
    ·rename_i n nc hne hnews;have hn0:n≠0:=hne;have hsrc:∀q∈fpS x,q.1<cur.length:=by
      intro q hq;cases x with
      |slice b off k ex c z=>
       simp only[fpS,List.mem_singleton]at hq;subst hq;cases k with
       |zero=>simp only[newsV,Option.some.injEq,Prod.mk.injEq]at hnews;exact absurd hnews.1.symm hn0
       |succ k=>
        simp only[newsV]at hnews;cases hb:blkCells cur b off ((k+1)*i.size)with
        |none=>rw[hb]at hnews;cases hnews
        |some l=>exact blk_lt hb
      |_=>simp[fpS]at hq
     simp only[hi,hz,if_pos hc,news_at hnews hfS];split at h
     ·rename_i hall;cases n with
      |zero=>exact absurd rfl hn0
      |succ n=>
      simp only[if_pos hall];split at h
      ·-- to nothing
       split at h
       ·rename_i hb;cases h;simp only[if_pos hb];refine⟨fun q hq=>?_,fun b _ hbn=>?_,MS,_,_,rfl,rfl,lastFlat_spec rfl hlf,.inr ⟨_,_,_,_,_,rfl,rfl⟩,by rw[atF_snoc,if_pos rfl],fun b hb=>by simp[fpD]at hb,fun b _=>rfl⟩
        ·rcases List.mem_append.1 hq with hq|hq
         ·exact hsrc q hq
         ·simp[fpD]at hq
        ·rw[atF_snoc,if_neg hbn]
       ·cases h
      ·-- to a list whose room is not told
       rename_i b len;split at h
       ·rename_i cs te sz hcb;have hbl:b<cur.length:=(List.getElem?_eq_some_iff.1 hcb).1;have hMb:MS[b]?=some (.row cs te sz):=by rw[hfD (b,true) (by simp[fpD]) hbl,hcb]
        simp only[hMb];split at h
        ·rename_i h1;simp only[if_pos h1];split at h
         ·rename_i h2;cases h;simp only[if_pos h2];refine⟨fun q hq=>?_,fun c hcn hne=>?_,MS.set b .dead,_,_,rfl,by simp,lastFlat_spec (cur1:=cur.set b .dead) (by simp) hlf,.inr ⟨_,_,_,_,_,rfl,rfl⟩,?_,fun c hcm=>?_,fun c hcn=>?_⟩
          ·rcases List.mem_append.1 hq with hq|hq
           ·exact hsrc q hq
           ·simp only[fpD,List.mem_singleton]at hq;subst hq;exact hbl
          ·rw[atF_snoc,List.length_set,if_neg hne,atF_set hbl,if_neg fun q=>hcn (by subst q;simp[fpD])]
          ·rw[atF_snoc,List.length_set,if_pos rfl]
          ·simp only[fpD,List.mem_singleton,Prod.mk.injEq,and_true]at hcm;subst hcm;refine⟨by rw[List.getElem?_set,if_pos rfl,if_pos (by omega)],?_⟩;rw[atF_snoc,List.length_set,if_neg (by omega),atF_set hbl,if_pos rfl]
          ·rw[List.getElem?_set_ne fun q=>hcn (by subst q;simp[fpD])]
         ·split at h
          ·cases h;simp at hlen
          ·cases h
        ·cases h
       ·cases h
      ·-- to a list whose room is told
       rename_i b off len c z;split at h
       ·rename_i h1;simp only[if_pos h1];split at h
        ·rename_i cs hcs;have hbl:=blk_lt hcs;cases h;rw[blk_at (hfD (b,false) (by simp[fpD]) hbl),hcs];refine⟨fun q hq=>?_,fun d _ hbn=>?_,MS,_,_,rfl,rfl,lastFlat_spec rfl hlf,.inr ⟨_,_,_,_,_,rfl,rfl⟩,by rw[atF_snoc,if_pos rfl],fun b hb=>by simp[fpD]at hb,fun b _=>rfl⟩
         ·rcases List.mem_append.1 hq with hq|hq
          ·exact hsrc q hq
          ·simp only[fpD,List.mem_singleton]at hq;subst hq;exact hbl
         ·rw[atF_snoc,if_neg hbn]
        ·cases h
       ·cases h
      ·cases h
     ·cases h
    ·cases h
   ·cases h
  ·cases h
 ·cases h
theorem build_any{P:Program}{cur cur':St}{t:TypeId}{len:Nat}{ps:List (Nat×V)}{v:V}(h:buildSliceV P cur t len ps=some (v,cur')):∃k,cur'=cur++[k]∧v=.slice cur.length 0 len false 0 0∧∀MS:St,buildSliceV P MS t len ps=some (.slice MS.length 0 len false 0 0,MS++[k]):=by
 unfold buildSliceV at h ⊢;split at h
 ·rename_i e hu;split at h
  ·rename_i i z hi hz;split at h
   ·rename_i hc;split at h
    ·rename_i cs hcs;split at h
     ·rename_i hl;cases h;exact⟨_,rfl,rfl,fun MS=>by simp only[hi,hz,if_pos hc,hcs,if_pos hl]⟩
     ·cases h
    ·cases h
   ·cases h
  ·cases h
 ·cases h
theorem stepN_mk{P:Program}{call:Call}{T:Nat→Option V}{op:Op}{v:V}{cur:St}(h:∀mem,opVal P call T mem op=some (v,mem)):StepOk P call T op v [] false cur cur:=
 ⟨by simp,fun b _=>rfl,.inr ⟨rfl,rfl,fun MS _ _=>⟨MS,h MS,rfl,by simp,fun b _=>rfl⟩⟩⟩
theorem stepM_mk{P:Program}{call:Call}{T:Nat→Option V}{op:Op}{v:V}{cur:St}{k:Blk}(hk:flatB k=true)(hn:∀n,∃v',nameOk v v' cur.length n∧∀MS:St,MS.length=n→opVal P call T MS op=some (v',MS++[k])):StepOk P call T op v [(cur.length,true)] true cur (cur++[k]):=by
 refine⟨by simp,fun b hb=>?_,.inl ⟨rfl,by simp,by simp,fun MS _ _=>?_⟩⟩
 ·rw[atF_snoc,if_neg fun e=>hb (by simp[e])]
 ·obtain⟨v',h1,h2⟩:=hn MS.length;refine⟨MS,k,v',h2 MS rfl,rfl,hk,h1,by rw[atF_snoc,if_pos rfl],fun b hb hm=>?_,fun b _=>rfl⟩;simp only[List.mem_singleton,Prod.mk.injEq,and_true]at hm;exact absurd hm hb
theorem stepF_ok{P:Program}{call:Call}{T:Nat→Option V}{op:Op}{v:V}{fp:List (Nat×Bool)}{mk:Bool}{cur cur':St}(h:stepF P call T cur op=some (v,fp,mk,cur')):StepOk P call T op v fp mk cur cur':=by
 unfold stepF at h;split at h
 ·rename_i t x;split at h
  ·rename_i b off hx;split at h
   ·rename_i v' hv;cases h;have hb:=load_lt hv;refine⟨by simpa using hb,fun c _=>rfl,.inr ⟨rfl,rfl,fun MS _ hf=>⟨MS,?_,rfl,by simp,fun c _=>rfl⟩⟩⟩;unfold opVal;simp only[pureOp,hx];rw[load_at (hf (b,false) (by simp) hb),hv]
   ·cases h
  ·cases h
 ·rename_i t x y;split at h
  ·rename_i b off v' hx hy;split at h
   ·rename_i cur2 hs;cases h;have hb:=store_lt hs;obtain⟨k0,hk0,_⟩:=store_at (st':=cur) rfl hs;refine⟨by rw[hk0];simpa using hb,fun c hc=>?_,.inr ⟨rfl,by rw[hk0];simp,fun MS hle hf=>?_⟩⟩
    ·rw[hk0,atF_set hb,if_neg fun e=>hc (by simp[e])]
    ·obtain⟨k,hk1,hk2⟩:=store_at (hf (b,true) (by simp) hb).symm hs;have hbM:b<MS.length:=by rw[hk1,List.length_set]at hle;omega
     refine⟨MS.set b k,?_,by simp,fun c hc=>?_,fun c hc=>?_⟩
     ·unfold opVal;simp only[pureOp,effOp,hx,hy,hk2]
     ·simp only[List.mem_singleton,Prod.mk.injEq,and_true]at hc;subst hc;rw[atF_set hbM,if_pos rfl,hk1,atF_set hb,if_pos rfl]
     ·rw[List.getElem?_set_ne fun e=>hc (by simp[e])]
   ·cases h
  ·cases h
 ·rename_i t;split at h
  ·rename_i z hz;cases hfl:flatL z.cells with
   |false=>rw[hfl]at h;cases h
   |true=>
    rw[hfl,cond_true]at h;cases h;refine stepM_mk (by simpa[flatB]using hfl) fun n=>⟨.ptr n 0,.inl ⟨0,rfl,rfl⟩,fun MS hMS=>?_⟩;subst hMS;unfold opVal;simp only[pureOp,effOp,allocV,hz]
  ·cases h
 ·rename_i t len parts;split at h
  ·rename_i ps hps;split at h
   ·rename_i v' cur2 hb;cases hlf:lastFlat cur2 cur.length with
    |false=>rw[hlf]at h;cases h
    |true=>
     rw[hlf,cond_true]at h;cases h;obtain⟨k,rfl,rfl,hk⟩:=build_any hb;refine stepM_mk (lastFlat_spec rfl hlf) fun n=>⟨.slice n 0 len false 0 0,.inr ⟨_,_,_,_,_,rfl,rfl⟩,fun MS hMS=>?_⟩;subst hMS;unfold opVal;simp only[pureOp,effOp,hps,hk]
   ·cases h
  ·cases h
 ·rename_i args ats;split at h
  ·rename_i t t' s x ht hl;split at h
   ·rename_i htt;split at h
    ·rename_i v' cur2 ha;have hov:∀MS r,appendV P MS t s x=some r→opVal P call T MS (.call {callee:=.builtin .append,args:=args,argTypes:=ats})=some r:=fun MS r hr=>by
      have hp:pureOp P MS (ev T) (.call {callee:=.builtin .append,args:=args,argTypes:=ats})=none:=rfl;unfold opVal;rw[hp];simp only[effOp,ht,hl,if_pos htt,hr]
     cases happ:isApp cur cur2 with
     |true=>
      rw[happ,cond_true]at h;cases hlf:lastFlat cur2 cur.length with
      |false=>rw[hlf]at h;cases h
      |true=>
       rw[hlf,cond_true]at h;have hlen:cur2.length=cur.length+1:=Nat.eq_of_beq_eq_true happ;cases h;have any:=fun MS hle hf=>append_any ha happ hlf (MS:=MS) hle hf;obtain⟨g1,g2,_⟩:=any cur (Nat.le_refl _) (fun _ _ _=>rfl);have memD:∀b,(b,true)∈fpS x++(fpD s++[(cur.length,true)])↔((b,true)∈fpD s∨b=cur.length):=fun b=>by
        have:(b,true)∉fpS x:=by cases x<;>simp[fpS]
        simp[this]
       refine⟨fun q hq=>?_,fun b hb=>?_,.inl ⟨rfl,hlen,by simp,fun MS hle hf=>?_⟩⟩
       ·rw[hlen];rcases List.mem_append.1 hq with hq|hq
        ·have:=g1 q (List.mem_append.2 (.inl hq));omega
        ·rcases List.mem_append.1 hq with hq|hq
         ·have:=g1 q (List.mem_append.2 (.inr hq));omega
         ·simp only[List.mem_singleton]at hq;subst hq;exact Nat.lt_succ_self _
       ·rw[memD]at hb;exact g2 b (fun h=>hb (.inl h)) (fun h=>hb (.inr h))
       ·obtain⟨_,_,MS1,k,v'',a1,a2,a3,a4,a5,a6,a7⟩:=any MS (by omega) (fun q hq=>hf q (by
         rcases List.mem_append.1 hq with hq|hq
         ·exact List.mem_append.2 (.inl hq)
         ·exact List.mem_append.2 (.inr (List.mem_append.2 (.inl hq)))))
        refine⟨MS1,k,v'',hov _ _ a1,a2,a3,a4,a5,fun b hbn hb=>?_,fun b hb=>?_⟩
        ·rw[memD]at hb;exact a6 b (hb.resolve_right hbn)
        ·refine a7 b fun hm=>?_;rcases hb with rfl|hb
         ·have:=g1 _ (List.mem_append.2 (.inr hm));simp at this
         ·exact hb ((memD b).2 (.inl hm))
     |false=>
      rw[happ,cond_false]at h;cases hx:emptyX x with
      |false=>rw[hx]at h;cases h
      |true=>
       rw[hx,cond_true]at h;cases h;exact stepN_mk fun MS=>hov _ _ (append_empty ha hx)
    ·cases h
   ·cases h
  ·cases h
 ·cases hn:noMemB op with
  |true=>
   rw[hn,cond_true]at h;split at h
   ·rename_i v' hv;cases h;exact stepN_mk fun MS=>by unfold opVal;rw[noMem_eq hn,hv]
   ·cases h
  |false=>
   rw[hn,cond_false]at h;split at h
   ·rename_i v' c hv;cases hpc:pcallB T op v' with
    |true=>
     rw[hpc,cond_true]at h;cases h;exact stepN_mk fun MS=>pcall_any hv hpc MS
    |false=>rw[hpc]at h;cases h
   ·cases h
def evalF(P:Program)(call:Call)(ops:Array Oper)(f:Fr)(dsts:List Tmp):List Oper→List RF→St→Option (List RF×St)
 |[],recs,cur=>some (recs,cur)
 |o::r,recs,cur=>
  bif o.after.toList.all (fun e=>!Region.binds .any e||Nat.blt e.on recs.length)then
   match guardT ops (frameR f dsts (ancOf (recsF recs) o.after.toList) (recsF recs)) o with
   |some false=>evalF P call ops f dsts r (recs++[⟨⟨o.dst,.tuple [],ancOf (recsF recs) o.after.toList,[]⟩,[],cur,false,false⟩]) cur
   |some true=>match stepF P call (frameR f dsts (ancOf (recsF recs) o.after.toList) (recsF recs)) cur o.op with
    |some (v,fp,mk,cur')=>bif ordF fp (ancOf (recsF recs) o.after.toList) recs then evalF P call ops f dsts r (recs++[⟨⟨o.dst,v,ancOf (recsF recs) o.after.toList,[]⟩,fp,cur,mk,false⟩]) cur' else none
    |none=>match seeOp P call (frameR f dsts (ancOf (recsF recs) o.after.toList) (recsF recs)) cur o.op with
     |some v=>bif ordA (ancOf (recsF recs) o.after.toList) 0 recs then evalF P call ops f dsts r (recs++[⟨⟨o.dst,v,ancOf (recsF recs) o.after.toList,[]⟩,[],cur,false,true⟩]) cur else none
     |none=>none
   |none=>none
  else none
def evalDrawF(P:Program)(call:Call)(ops:Array Oper)(f:Fr)(st:St):Option (Fr×St):=
 bif (distinct (dstsOf ops)&&(dstsOf ops).all (fun d=>Nat.blt d f.sz))&&noDefer ops then
  match evalF P call ops f (dstsOf ops) ops.toList [] st with
  |some (recs,fin)=>some (putsR f (recsF recs),fin)
  |none=>none
 else none
section
variable {P:Program} {call:Call} {ro:Option Nat} {f:Fr} {st:St} {B:Nat} {W0 w w':World} {m:List MB}
def memF(R:List RF)(fin:St)(j:Nat):St:=match R[j]? with
 |some x=>x.mem
 |none=>fin
def SpecF(P:Program)(call:Call)(ops:Array Oper)(f:Fr)(dsts:List Tmp)(R:List RF)(fin:St)(i:Nat)(o:Oper)(x:RF):Prop:=
 (∀e∈o.after,Region.binds .any e=true→e.on<i)∧x.r.dst=o.dst∧x.r.anc=ancOf (recsF (R.take i)) o.after.toList∧
 (∀b w,(b,w)∈x.fp→∀q y,q<i→R[q]?=some y→((∃w',(b,w')∈y.fp∧(w||w')=true)∨(w=true∧y.all=true))→Nat.testBit x.r.anc q=true)∧
 ((guardT ops (frameR f dsts x.r.anc (recsF (R.take i))) o=some false∧x.r.v=.tuple []∧x.fp=[]∧x.mkr=false∧memF R fin (i+1)=x.mem)∨
  (guardT ops (frameR f dsts x.r.anc (recsF (R.take i))) o=some true∧StepOk P call (frameR f dsts x.r.anc (recsF (R.take i))) o.op x.r.v x.fp x.mkr x.mem (memF R fin (i+1)))∨
  (guardT ops (frameR f dsts x.r.anc (recsF (R.take i))) o=some true∧seeOp P call (frameR f dsts x.r.anc (recsF (R.take i))) x.mem o.op=some x.r.v∧x.all=true∧x.fp=[]∧x.mkr=false∧memF R fin (i+1)=x.mem∧∀q y b,q<i→R[q]?=some y→(b,true)∈y.fp→Nat.testBit x.r.anc q=true))
theorem evalF_spec{ops:Array Oper}{dsts:List Tmp}:∀(l:List Oper) (recs:List RF) (cur:St) (R:List RF) (fin:St),evalF P call ops f dsts l recs cur=some (R,fin)→
  R.take recs.length=recs∧R.length=recs.length+l.length∧memF R fin recs.length=cur∧∀(j:Nat) (o:Oper),l[j]?=some o→∃x,R[recs.length+j]?=some x∧SpecF P call ops f dsts R fin (recs.length+j) o x
 |[],recs,cur,R,fin,h=>by
  simp only[evalF,Option.some.injEq,Prod.mk.injEq]at h;obtain⟨rfl,rfl⟩:=h;refine⟨by simp,by simp,by simp[memF],fun j o hj=>by simp at hj⟩
 |o::l,recs,cur,R,fin,h=>by
  simp only[evalF]at h;cases hb:o.after.toList.all (fun e=>!Region.binds .any e||Nat.blt e.on recs.length)with
  |false=>rw[hb]at h;cases h
  |true=>
  rw[hb,cond_true]at h;have hedge:∀e∈o.after,Region.binds .any e=true→e.on<recs.length:=by
   intro e he hbe;have:=List.all_eq_true.1 hb e (by simpa using he);simp only[hbe,Bool.not_true,Bool.false_or]at this;exact blt_true this
  have go:∀(x:RF) (cur':St),evalF P call ops f dsts l (recs++[x]) cur'=some (R,fin)→x.mem=cur→
    (R.take recs.length=recs→memF R fin (recs.length+1)=cur'→SpecF P call ops f dsts R fin recs.length o x)→
    R.take recs.length=recs∧R.length=recs.length+(o::l).length∧memF R fin recs.length=cur∧∀(j:Nat) (o':Oper),(o::l)[j]?=some o'→∃x,R[recs.length+j]?=some x∧SpecF P call ops f dsts R fin (recs.length+j) o' x:=by
   intro x cur' hx hmem hspec;obtain⟨h1,h2,h3,h4⟩:=evalF_spec l (recs++[x]) cur' R fin hx;have ht:R.take recs.length=recs:=by
    have:=congrArg (List.take recs.length) h1;rw[List.take_take,List.length_append]at this;simpa[Nat.min_eq_left]using this
   have hx':R[recs.length]?=some x:=by
    have:=congrArg (fun q:List RF=>q[recs.length]?) h1;simpa using this
   have h3:memF R fin (recs.length+1)=cur':=by simpa using h3
   refine⟨ht,by simp at h2;simp;omega,by unfold memF;rw[hx'];exact hmem,fun j o' hj=>?_⟩;cases j with
   |zero=>
    simp only[List.getElem?_cons_zero,Option.some.injEq]at hj;subst hj;exact⟨x,by simpa using hx',hspec ht h3⟩
   |succ j=>
    simp only[List.getElem?_cons_succ]at hj;obtain⟨r,g1,g2⟩:=h4 j o' hj;have e:(recs++[x]).length+j=recs.length+(j+1):=by simp;omega
    rw[e]at g1 g2;exact⟨r,g1,g2⟩
  have before:∀{q:Nat} {y:RF},R.take recs.length=recs→q<recs.length→R[q]?=some y→recs[q]?=some y:=by
   intro q y ht hq hy;rw[←ht,List.getElem?_take,if_pos hq];exact hy
  split at h
  ·rename_i hg;exact go _ _ h rfl fun ht hm=>⟨hedge,rfl,by rw[ht],(fun b w hbw=>by cases hbw),.inl ⟨by rw[ht];exact hg,rfl,rfl,rfl,hm⟩⟩
  ·rename_i hg;split at h
   ·rename_i v fp mk cur' hx;cases hs:ordF fp (ancOf (recsF recs) o.after.toList) recs with
    |false=>rw[hs]at h;cases h
    |true=>
     rw[hs,cond_true]at h;refine go _ _ h rfl fun ht hm=>⟨hedge,rfl,by rw[ht],fun b w hbw q y hq hy hf=>?_,.inr (.inl ⟨by rw[ht];exact hg,by rw[ht,hm];exact stepF_ok hx⟩)⟩;have:=ordB_spec (List.all_eq_true.1 hs (b,w) hbw) q y (before ht hq hy) hf;rwa [Nat.zero_add]at this
   ·split at h
    ·rename_i v hv;cases hs:ordA (ancOf (recsF recs) o.after.toList) 0 recs with
     |false=>rw[hs]at h;cases h
     |true=>
      rw[hs,cond_true]at h;refine go _ _ h rfl fun ht hm=>⟨hedge,rfl,by rw[ht],(fun b w hbw=>by cases hbw),.inr (.inr ⟨by rw[ht];exact hg,by rw[ht];exact hv,rfl,rfl,rfl,hm,fun q y b hq hy hf=>?_⟩)⟩;have:=ordA_spec hs q y b (before ht hq hy) hf;rwa [Nat.zero_add]at this
    ·cases h
  ·cases h
structure InvF (B:Nat) (W0:World) (m:List MB) (f:Fr) (R:List RF) (fin:St) (dsts:List Tmp) (S:Nat→Prop) (a:Act) (w:World) (mS:List MB):Prop where
 len:mS.length=fin.length
 ext:Ext m mS
 cut:∃MS,Rel B W0 mS MS w∧∀(b j:Nat),j≤R.length→(∀q y,R[q]?=some y→(b,true)∈y.fp→(S q↔q<j))→atF MS b=atF (memF R fin j) b
 hol:∀q y,R[q]?=some y→y.mkr=true→¬S q→mS[y.mem.length]?=some hole
 size:a.tmps.size=f.sz
 done:∀j x d,R[j]?=some x→S j→x.r.dst=some d→∃y,a.tmps[d]?=some y∧real mS x.r.v=some y
 rest:∀t v,t∉dsts→f.T.get t=some v→∃x,a.tmps[t]?=some x∧real mS v=some x
 defs:DOk m f.defs a.defers
 gok:GOk w.heap.size w
theorem memF_mono{R:List RF}{fin:St}(hmono:∀i x,R[i]?=some x→(memF R fin i).length≤(memF R fin (i+1)).length){j:Nat}:∀(n:Nat),j+n≤R.length→(memF R fin j).length≤(memF R fin (j+n)).length
 |0,_=>Nat.le_refl _
 |n+1,hl=>by
  have h1:=memF_mono hmono n (j:=j) (by omega);obtain⟨x,hx⟩:∃x,R[j+n]?=some x:=⟨_,List.getElem?_eq_getElem (by omega)⟩;exact Nat.le_trans h1 (hmono _ x hx)
theorem memF_const{R:List RF}{fin:St}{b:Nat}(hconst:∀i x,R[i]?=some x→(b,true)∉x.fp→atF (memF R fin (i+1)) b=atF (memF R fin i) b){j:Nat}:∀(n:Nat),j+n≤R.length→(∀q x,R[q]?=some x→(b,true)∈x.fp→¬(j≤q∧q<j+n))→atF (memF R fin (j+n)) b=atF (memF R fin j) b
 |0,_,_=>rfl
 |n+1,hl,hn=>by
  have h1:=memF_const hconst n (by omega) fun q x hx he hq=>hn q x hx he ⟨hq.1,by omega⟩;obtain⟨x,hx⟩:∃x,R[j+n]?=some x:=⟨_,List.getElem?_eq_getElem (by omega)⟩;have he:(b,true)∉x.fp:=fun he=>hn _ x hx he ⟨by omega,by omega⟩;rw[←h1];exact hconst (j+n) x hx he
theorem InvF.step{R:List RF}{fin:St}{dsts:List Tmp}{S:Nat→Prop}{a:Act}{mS m':List MB}(hI:InvF B W0 m f R fin dsts S a w mS){i:Nat}{x:RF}(hi:R[i]?=some x)
  (hdis:∀(j:Nat) (x':RF) (d:Tmp),R[j]?=some x'→x.r.dst=some d→x'.r.dst=some d→j=i)(hds:∀d,x.r.dst=some d→d<f.sz∧d∈dsts){y:Value}(he:AExt mS m')(he':Ext m m')(hlen:m'.length=mS.length)(hhol:∀q y,R[q]?=some y→y.mkr=true→¬(S q∨q=i)→m'[y.mem.length]?=some hole)(hy:real m' x.r.v=some y)
  (hcut:∃MS,Rel B W0 m' MS w'∧∀(b j:Nat),j≤R.length→(∀q z,R[q]?=some z→(b,true)∈z.fp→((S q∨q=i)↔q<j))→atF MS b=atF (memF R fin j) b)(hgw:GOk w'.heap.size w'):
  InvF B W0 m f R fin dsts (fun j=>S j∨j=i) (a.put x.r.dst y) w' m':=by
 have hsz:(a.put x.r.dst y).tmps.size=f.sz:=by
  rw[←hI.size];cases x.r.dst<;>simp[Act.put]
 refine⟨hlen.trans hI.len,he',hcut,hhol,hsz,fun j x' d hj hS hd=>?_,fun t v ht hv=>?_,?_,hgw⟩
 ·cases hdd:x.r.dst with
  |none=>
   rcases hS with hS|rfl
   ·obtain⟨z,h1,h2⟩:=hI.done j x' d hj hS hd;exact⟨z,by simpa[Act.put]using h1,real_amono he _ _ h2⟩
   ·rw[hi]at hj;cases hj;rw[hdd]at hd;cases hd
  |some d'=>
   have hlt:=(hds d' hdd).1;by_cases hq:d=d'
   ·subst hq;have hji:=hdis j x' d hj hdd hd;subst hji;rw[hi]at hj;cases hj;exact⟨y,by simp[Act.put,hI.size,hlt],hy⟩
   ·rcases hS with hS|rfl
    ·obtain⟨z,h1,h2⟩:=hI.done j x' d hj hS hd;exact⟨z,by simp only[Act.put];rw[Array.getElem?_setIfInBounds,if_neg (by intro h;exact hq h.symm)];exact h1,real_amono he _ _ h2⟩
    ·rw[hi]at hj;cases hj;rw[hdd]at hd;cases hd;exact absurd rfl hq
 ·obtain⟨z,h1,h2⟩:=hI.rest t v ht hv;refine⟨z,?_,real_amono he _ _ h2⟩;cases hdd:x.r.dst with
  |none=>simpa[Act.put]using h1
  |some d'=>
   have hne:d'≠t:=by rintro rfl;exact ht (hds d' hdd).2
   simp only[Act.put];rw[Array.getElem?_setIfInBounds,if_neg hne];exact h1
 ·have:=hI.defs;cases x.r.dst<;>simpa[Act.put]using this
theorem sat_draw_fp{id:Nat}{ops:Array Oper}{Q:Exit→Fr→St→Prop}(hm:P.follows .mixedOrders=true)(hc:CallOk P call){f':Fr}{st':St}(h:evalDrawF P call ops f st=some (f',st'))(hq:Q .normal f' st'):
  CodeSat P ro (.region id ops true) f st Q:=by
 unfold evalDrawF at h;cases hb:((distinct (dstsOf ops)&&(dstsOf ops).all (fun d=>Nat.blt d f.sz))&&noDefer ops)with
 |false=>rw[hb]at h;cases h
 |true=>
 rw[hb,cond_true]at h;simp only[Bool.and_eq_true]at hb;obtain⟨⟨hdis,hall⟩,hnd⟩:=hb;split at h
 case h_2=>cases h
 rename_i R fin hR;cases h;obtain⟨_,hlen,hmem0,hspec⟩:=evalF_spec ops.toList [] st R st' hR;simp only[List.length_nil,Nat.zero_add]at hlen hspec hmem0;have rec_of:∀{i:Nat} {o:Oper},ops[i]?=some o→∃x,R[i]?=some x∧SpecF P call ops f (dstsOf ops) R st' i o x:=fun ho=>hspec _ _ (by simpa using ho);have op_of:∀{i:Nat} {x:RF},R[i]?=some x→∃o,ops[i]?=some o∧SpecF P call ops f (dstsOf ops) R st' i o x:=by
  intro i x hr;have hi:i<ops.toList.length:=hlen▸(List.getElem?_eq_some_iff.1 hr).1;have ho:ops.toList[i]?=some ops.toList[i]:=List.getElem?_eq_getElem hi;obtain⟨r',h1,h2⟩:=hspec i _ ho;rw[hr]at h1;cases h1;exact⟨_,by simp,h2⟩
 have hdsz:∀(j:Nat) (x:RF) (d:Tmp),R[j]?=some x→x.r.dst=some d→d<f.sz∧d∈dstsOf ops:=by
  intro j x d hj hd;obtain⟨o,h1,h2⟩:=op_of hj;have hmem:d∈dstsOf ops:=List.mem_filterMap.2 ⟨o,List.mem_of_getElem? (by simpa using h1),h2.2.1▸hd⟩;exact⟨blt_true (List.all_eq_true.1 hall d hmem),hmem⟩
 have hdd:∀(i j:Nat) (x x':RF) (d:Tmp),R[i]?=some x→R[j]?=some x'→x.r.dst=some d→x'.r.dst=some d→j=i:=by
  intro i j r r' d hi hj hd hd';obtain⟨o,h1,h2⟩:=op_of hi;obtain⟨o',h1',h2'⟩:=op_of hj;exact filterMap_distinct (fun o:Oper=>o.dst) hdis j i o' o d (by simpa using h1') (by simpa using h1) (h2'.2.1▸hd') (h2.2.1▸hd)
 have hsp:∀{i:Nat} {x:RF},R[i]?=some x→(∀q∈x.fp,q.1<(memF R st' (i+1)).length)∧(∀b,(b,true)∉x.fp→atF (memF R st' (i+1)) b=atF (memF R st' i) b)∧(x.mkr=true→(memF R st' (i+1)).length=x.mem.length+1∧(x.mem.length,true)∈x.fp)∧(x.mkr=false→(memF R st' (i+1)).length=x.mem.length):=by
  intro i x hx;obtain⟨o,ho,hs⟩:=op_of hx;have e:memF R st' i=x.mem:=by unfold memF;rw[hx]
  rw[e];rcases hs.2.2.2.2 with⟨_,_,h3,h4,h5⟩|⟨_,h1,h2,h3⟩|⟨_,_,_,h3,h4,h5,_⟩
  ·rw[h5,h3,h4];exact⟨fun q hq=>(by cases hq),fun b _=>rfl,fun h=>(by cases h),fun _=>rfl⟩
  ·rcases h3 with⟨a1,a2,a3,_⟩|⟨a1,a2,_⟩
   ·exact⟨h1,h2,fun _=>⟨a2,a3⟩,fun h=>(by rw[a1]at h;cases h)⟩
   ·exact⟨h1,h2,fun h=>(by rw[a1]at h;cases h),fun _=>a2⟩
  ·rw[h5,h3,h4];exact⟨fun q hq=>(by cases hq),fun b _=>rfl,fun h=>(by cases h),fun _=>rfl⟩
 have hconst:∀b i x,R[i]?=some x→(b,true)∉x.fp→atF (memF R st' (i+1)) b=atF (memF R st' i) b:=fun b i x hx he=>(hsp hx).2.1 b he;have hmono:∀{i q:Nat},i≤q→q≤R.length→(memF R st' i).length≤(memF R st' q).length:=by
  intro i q h1 h2;have:=memF_mono (R:=R) (fin:=st') (fun i x hx=>by
   have e:memF R st' i=x.mem:=by unfold memF;rw[hx]
   have:=hsp hx;cases hk:x.mkr with
   |true=>rw[e,(this.2.2.1 hk).1];omega
   |false=>rw[e,this.2.2.2 hk];exact Nat.le_refl _) (j:=i) (q-i) (by omega)
  rwa [show i+(q-i)=q by omega]at this
 have hfin:∀{i:Nat} {x:RF},R[i]?=some x→x.mem.length≤st'.length∧st.length≤x.mem.length∧(memF R st' (i+1)).length≤st'.length:=by
  intro i x hx;have hi:=(List.getElem?_eq_some_iff.1 hx).1;have e:memF R st' i=x.mem:=by unfold memF;rw[hx]
  have e2:memF R st' R.length=st':=by unfold memF;rw[List.getElem?_eq_none (Nat.le_refl _)]
  have h1:=hmono (i:=i) (q:=R.length) (by omega) (Nat.le_refl _);have h2:=hmono (i:=0) (q:=i) (by omega) (by omega);have h3:=hmono (i:=i+1) (q:=R.length) (by omega) (Nat.le_refl _);rw[e]at h1 h2;rw[e2]at h1 h3;rw[hmem0]at h2;exact⟨h1,h2,h3⟩
 -- the makers' names are not the same
 have hmk:∀{i q:Nat} {x y:RF},R[i]?=some x→R[q]?=some y→i<q→x.mkr=true→x.mem.length<y.mem.length:=by
  intro i q x y hx hy hiq hm;have h1:=((hsp hx).2.2.1 hm).1;have h2:=hmono (i:=i+1) (q:=q) (by omega) (by have:=(List.getElem?_eq_some_iff.1 hy).1;omega);have e:memF R st' q=y.mem:=by unfold memF;rw[hy]
  rw[e]at h2;omega
 -- what lies ahead of an operation has been carried out
 have closed:∀(S:Nat→Prop),(∀j o,ops[j]?=some o→S j→∀e∈o.after,Region.binds .any e=true→S e.on)→
   ∀(i:Nat) (x:RF) (o:Oper),R[i]?=some x→ops[i]?=some o→(∀e∈o.after,Region.binds .any e=true→S e.on)→∀k,Nat.testBit x.r.anc k=true→S k:=by
  intro S hS i
  induction i using Nat.strongRecOn with
  |_ i ih=>
   intro x o hr ho hedge k hk;obtain⟨o',ho',hlt,_,hanc,_⟩:=op_of hr;rw[ho]at ho';cases ho';rw[hanc]at hk;obtain⟨e,he,hbe,hcase⟩:=ancOf_bit hk;have he':e∈o.after:=by simpa using he
   have hei:=hlt e he' hbe;rcases hcase with rfl|⟨r',hr',hk'⟩
   ·exact hedge e he' hbe
   ·unfold recsF at hr';rw[List.getElem?_map,List.getElem?_take,if_pos hei]at hr';cases hre:R[e.on]? with
    |none=>rw[hre]at hr';cases hr'
    |some y=>
     rw[hre]at hr';simp only[Option.map_some,Option.some.injEq]at hr';subst hr';obtain⟨o2,ho2,_⟩:=op_of hre;exact ih e.on hei y o2 hre ho2 (hS e.on o2 ho2 (hedge e he' hbe)) k hk'
 intro B W0 m a w F hF hA hr;have hsize:ops.size=R.length:=by rw[hlen];simp
 have key:∀(fuel:Nat) (listed:Array Bool) (a:Act) (w:World) (mS:List MB),listed.size=ops.size→(∀j o,ops[j]?=some o→listed.getD j false=true→∀e∈o.after,Region.binds .any e=true→listed.getD e.on false=true)→
   InvF B W0 m f R st' (dstsOf ops) (fun j=>listed.getD j false=true) a w mS→((List.range ops.size).filter (fun j=>!listed.getD j false)).length≤fuel→
   wpAnyIn F 0 P .any ops (Post B W0 m Q) fuel listed a w:=by
  intro fuel;have fin:∀(listed:Array Bool) (a:Act) (w:World) (mS:List MB),listed.size=ops.size→InvF B W0 m f R st' (dstsOf ops) (fun j=>listed.getD j false=true) a w mS→Region.ready .any ops listed=[]→Post B W0 m Q .normal a w:=by
   intro listed a w mS hsz hI hrd;have hS:∀j,j<R.length→listed.getD j false=true:=by
    intro j
    induction j using Nat.strongRecOn with
    |_ j ih=>
     intro hj;cases hl:listed.getD j false with
     |true=>rfl
     |false=>
      exfalso;have hjo:ops[j]?=some ops[j]:=Array.getElem?_eq_getElem (by omega);obtain⟨r,hr,hlt,_⟩:=rec_of hjo;have:j∈Region.ready .any ops listed:=mem_ready.2 ⟨by
       rw[Array.getD_eq_getD_getElem?]at hl ⊢;rw[Array.getElem?_eq_getElem (by omega)]at hl ⊢;exact hl,_,hjo,fun e he hbe=>ih e.on (hlt e he hbe) (by have:=hlt e he hbe;omega)⟩
      rw[hrd]at this;cases this
   have hds:∀t,t∈dstsOf ops→∃(j:Nat) (x:RF),R[j]?=some x∧x.r.dst=some t:=by
    intro t ht;obtain⟨o,ho,hdo⟩:=List.mem_filterMap.1 ht;obtain⟨j,hj⟩:=List.mem_iff_getElem?.1 ho;obtain⟨x,hx,hs⟩:=rec_of (i:=j) (by simpa using hj);exact⟨j,x,hx,by rw[hs.2.1];exact hdo⟩
   have hget:∀{j:Nat} {r:Rec},(recsF R)[j]?=some r→∃x,R[j]?=some x∧r=x.r:=by
    intro j r hj;unfold recsF at hj;rw[List.getElem?_map]at hj;cases hx:R[j]? with
    |none=>rw[hx]at hj;cases hj
    |some x=>rw[hx]at hj;simp only[Option.map_some,Option.some.injEq]at hj;exact⟨x,rfl,hj.symm⟩
   refine⟨mS,putsR f (recsF R),st',hI.ext,⟨⟨?_,fun t v hv=>?_⟩,?_⟩,?_,hq⟩
   ·rw[(putsR_sz (recsF R) f).1];exact hI.size
   ·rcases putsR_get (recsF R) f t v (fun j r d hj hd=>by obtain⟨x,hx,rfl⟩:=hget hj;exact(hdsz j x d hx hd).1) hv with⟨j,r,h1,h2,rfl⟩|⟨h1,h2⟩
    ·obtain⟨x,hx,rfl⟩:=hget h1;exact hI.done j x t hx (hS j (List.getElem?_eq_some_iff.1 hx).1) h2
    ·have:t∉dstsOf ops:=fun hm=>by
      obtain⟨j,x,g1,g2⟩:=hds t hm;exact h2 j x.r (by unfold recsF;rw[List.getElem?_map,g1];rfl) g2
     exact hI.rest t v this h1
   ·rw[(putsR_sz (recsF R) f).2];exact hI.defs.mono hI.ext
   ·obtain⟨MS,hrel,hMS⟩:=hI.cut;have hl:MS.length=st'.length:=by rw[←hrel.len,hI.len]
    have:MS=st':=by
     apply List.ext_getElem?;intro b;have:=hMS b R.length (Nat.le_refl _) fun q y hq hy=>⟨fun _=>(List.getElem?_eq_some_iff.1 hq).1,fun h=>hS q h⟩;rw[show memF R st' R.length=st' by unfold memF;rw[List.getElem?_eq_none (Nat.le_refl _)]]at this;rcases Nat.lt_or_ge b st'.length with hb|hb
     ·rw[atF_get hb,atF_get (by omega),this]
     ·rw[List.getElem?_eq_none hb,List.getElem?_eq_none (by omega)]
    rw[←this];exact hrel
  induction fuel with
  |zero=>
   intro listed a w mS hsz hcl hI hcnt;have hrd:Region.ready .any ops listed=[]:=by
    rw[List.eq_nil_iff_forall_not_mem];intro j hj;obtain⟨h1,o,ho,_⟩:=mem_ready.1 hj;have hlt:j<ops.size:=(Array.getElem?_eq_some_iff.1 ho).1;have:j∈(List.range ops.size).filter (fun j=>!listed.getD j false):=by
     rw[List.mem_filter,List.mem_range];refine⟨hlt,?_⟩;rw[Array.getD_eq_getD_getElem?,Array.getElem?_eq_getElem (by omega)]at h1 ⊢;simpa using h1
    have hnil:=List.eq_nil_of_length_eq_zero (Nat.le_zero.1 hcnt);rw[hnil]at this;cases this
   exact⟨hrd,fin listed a w mS hsz hI hrd⟩
  |succ fuel ih=>
   intro listed a w mS hsz hcl hI hcnt;refine⟨fin listed a w mS hsz hI,fun i hi=>?_⟩;obtain⟨h1,o,ho,hedge⟩:=mem_ready.1 hi;have hlt:i<ops.size:=(Array.getElem?_eq_some_iff.1 ho).1;have hun:listed.getD i false=false:=by
    rw[Array.getD_eq_getD_getElem?,Array.getElem?_eq_getElem (by omega)]at h1 ⊢;exact h1
   obtain⟨x,hri,hlts,hdst,hanc,hord,hcase⟩:=rec_of ho;have hmi:memF R st' i=x.mem:=by unfold memF;rw[hri]
   have hancS:=closed (fun j=>listed.getD j false=true) hcl i x o hri ho hedge;have hT:∀t v,frameR f (dstsOf ops) x.r.anc (recsF (R.take i)) t=some v→∃y,a.tmps[t]?=some y∧real mS v=some y:=by
    intro t v hv;rcases frameR_look hv with⟨j,r,g1,g2,g3,rfl⟩|⟨g1,g2⟩
    ·unfold recsF at g1;rw[List.getElem?_map,List.getElem?_take]at g1;split at g1
     ·cases hx:R[j]? with
      |none=>rw[hx]at g1;cases g1
      |some y=>
       rw[hx]at g1;simp only[Option.map_some,Option.some.injEq]at g1;subst g1;exact hI.done j y t hx (hancS j g3) g2
     ·cases g1
    ·exact hI.rest t v g1 g2
   have hget:∀j,(listed.setIfInBounds i true).getD j false=true↔(listed.getD j false=true∨j=i):=by
    intro j;simp only[Array.getD_eq_getD_getElem?,Array.getElem?_setIfInBounds];by_cases hji:i=j
    ·subst hji;simp[hsz,hlt]
    ·rw[if_neg hji];constructor
     ·exact fun h=>.inl h
     ·rintro(h|h)
      ·exact h
      ·exact absurd h.symm hji
   have next:∀(y:Value) (m':List MB) (w':World),AExt mS m'→Ext m m'→m'.length=mS.length→(∀q y,R[q]?=some y→y.mkr=true→¬(listed.getD q false=true∨q=i)→m'[y.mem.length]?=some hole)→real m' x.r.v=some y→
     (∃MS,Rel B W0 m' MS w'∧∀(b j:Nat),j≤R.length→(∀q z,R[q]?=some z→(b,true)∈z.fp→((listed.getD q false=true∨q=i)↔q<j))→atF MS b=atF (memF R st' j) b)→GOk w'.heap.size w'→
     wpAnyIn F 0 P .any ops (Post B W0 m Q) fuel (listed.setIfInBounds i true) (a.put o.dst y) w':=by
    intro y m' w' e1 e1' e1'' e1h e2 e3 e4;have hN:=hI.step hri (fun j x' d hj hd hd'=>hdd i j x x' d hri hj hd hd') (fun d hd=>hdsz i x d hri hd) e1 e1' e1'' e1h e2 e3 e4;rw[hdst]at hN;refine ih _ _ _ m' (by simpa using hsz) ?_ ?_ ?_
    ·intro j o' hj hl e he hbe;rw[hget]at hl ⊢;rcases hl with hl|rfl
     ·exact .inl (hcl j o' hj hl e he hbe)
     ·rw[ho]at hj;cases hj;exact .inl (hedge e he hbe)
    ·have:(fun j=>(listed.setIfInBounds i true).getD j false=true)=(fun j=>listed.getD j false=true∨j=i):=funext fun j=>propext (hget j);rw[this];exact hN
    ·have hlt2:((List.range ops.size).filter (fun j=>!(listed.setIfInBounds i true).getD j false)).length<((List.range ops.size).filter (fun j=>!listed.getD j false)).length:=by
      have hsub:(List.range ops.size).filter (fun j=>!(listed.setIfInBounds i true).getD j false)=((List.range ops.size).filter (fun j=>!listed.getD j false)).filter (fun j=>j !=i):=by
       rw[List.filter_filter];apply List.filter_congr;intro j _;by_cases h3:j=i
       ·rw[(hget j).2 (.inr h3)];subst h3;simp
       ·cases h2:listed.getD j false with
        |true=>rw[(hget j).2 (.inl h2)];simp
        |false=>
         have h1:(listed.setIfInBounds i true).getD j false=false:=by
          cases h1:(listed.setIfInBounds i true).getD j false with
          |false=>rfl
          |true=>
            rcases(hget j).1 h1 with h|h
            ·rw[h2]at h;cases h
            ·exact absurd h h3
         rw[h1];simp[h3]
      rw[hsub];have hmem:i∈(List.range ops.size).filter (fun j=>!listed.getD j false):=by rw[List.mem_filter,List.mem_range];exact⟨hlt,by rw[hun];rfl⟩
      exact List.length_filter_lt_length_iff_exists.2 ⟨i,hmem,by simp⟩
     omega
   obtain⟨MS,hMrel,hMS⟩:=hI.cut;have hML:MS.length=st'.length:=by rw[←hMrel.len,hI.len]
   have nextS:∀(y:Value) (w':World),real mS x.r.v=some y→
     (∃MS,Rel B W0 mS MS w'∧∀(b j:Nat),j≤R.length→(∀q z,R[q]?=some z→(b,true)∈z.fp→((listed.getD q false=true∨q=i)↔q<j))→atF MS b=atF (memF R st' j) b)→GOk w'.heap.size w'→
     wpAnyIn F 0 P .any ops (Post B W0 m Q) fuel (listed.setIfInBounds i true) (a.put o.dst y) w':=fun y w' e2 e3 e4=>
    next y mS w' (fun _ _ h=>h) hI.ext rfl (fun q z hq hz hn=>hI.hol q z hq hz fun h=>hn (.inl h)) e2 e3 e4
   -- the blocks that it looks at are found as they are told
   have here:∀b wr,(b,wr)∈x.fp→∀q z,R[q]?=some z→(b,true)∈z.fp→(listed.getD q false=true↔q<i):=by
    intro b wr hbw q z hq hz;rcases Nat.lt_trichotomy q i with h|h|h
    ·exact⟨fun _=>h,fun _=>hancS q (hord b wr hbw q z h hq (.inl ⟨true,hz,by simp⟩))⟩
    ·subst h;exact⟨fun hS=>(by rw[hun]at hS;cases hS),fun h=>absurd h (Nat.lt_irrefl _)⟩
    ·refine⟨fun hS=>?_,fun h'=>by omega⟩;exfalso;obtain⟨oq,hoq,hsq⟩:=op_of hq;have hb:=hsq.2.2.2.1 b true hz i x h hri (.inl ⟨wr,hbw,rfl⟩);have:=closed (fun j=>listed.getD j false=true) hcl q z oq hq hoq (hcl q oq hoq hS) i hb;rw[hun]at this;cases this
   have agree:∀b wr,(b,wr)∈x.fp→atF MS b=atF x.mem b:=fun b wr hbw=>by
    have:=hMS b i (by omega) (here b wr hbw);rwa [hmi]at this
   have agree':∀q∈x.fp,q.1<x.mem.length→MS[q.1]?=x.mem[q.1]?:=fun q hq hlt'=>by
    have:=hfin hri;rw[atF_get hlt',atF_get (by omega),agree q.1 q.2 hq]
   -- what is told of the blocks behind it
   have after:∀(MS':St),(∀b,(b,true)∈x.fp→atF MS' b=atF (memF R st' (i+1)) b)→(∀b,(b,true)∉x.fp→atF MS' b=atF MS b)→
     ∀(b j:Nat),j≤R.length→(∀q z,R[q]?=some z→(b,true)∈z.fp→((listed.getD q false=true∨q=i)↔q<j))→atF MS' b=atF (memF R st' j) b:=by
    intro MS' h1 h2 b j hj hcut;by_cases hb:(b,true)∈x.fp
    ·have hij:i<j:=(hcut i x hri hb).1 (.inr rfl);have hcst:=memF_const (R:=R) (fin:=st') (b:=b) (hconst b) (j:=i+1) (j-(i+1)) (by omega) fun q z hq hz hb'=>?_
     ·rw[show i+1+(j-(i+1))=j by omega]at hcst;rw[hcst,h1 b hb]
     ·rcases(hcut q z hq hz).2 (by omega)with hS|hS
      ·have:=(here b true hb q z hq hz).1 hS;omega
      ·omega
    ·rw[h2 b hb];refine hMS b j hj fun q z hq hz=>?_;have hqi:q≠i:=by rintro rfl;rw[hri]at hq;cases hq;exact hb hz
     rw[←hcut q z hq hz];exact⟨fun h=>.inl h,fun h=>h.resolve_right hqi⟩
   unfold wpOpIn;rw[ho];rcases hcase with⟨hg,hv,hfp,_,hm0⟩|⟨hg,_,_,hstep⟩|⟨hg,hsee,hall',hfp,_,hm0,hbef⟩
   ·simp only
    rw[if_neg (by rw[guardT_ok hT hg];simp)];exact⟨fun g _=>hF.fn g,nextS undef w (by rw[hv];rfl) ⟨MS,hMrel,after MS (fun b hb=>by rw[hfp]at hb;cases hb) fun b _=>rfl⟩ hI.gok⟩
   ·simp only
    rw[if_pos (guardT_ok hT hg)];rcases hstep with⟨hmkr,hl1,hin,hstep⟩|⟨hmkr,hl1,hstep⟩
    ·have hxl:=hfin hri;obtain⟨MS1,k,v',hov,hl,hflat,hname,hk1,hkill,hsame⟩:=hstep MS (by rw[hML];exact hxl.2.2) agree';refine opVal_uponG hc hF hT hMrel hov (noDefer_spec hnd ho) ?_;intro y m' w' e1 e2 e3;have hnl:x.mem.length<st'.length:=by omega
     have hdead:MS[x.mem.length]?=some .dead:=by
      have:=agree _ _ hin;rw[atF_none (Nat.le_refl _)]at this;rw[atF_get (by omega),this]
     have hhole:=hI.hol i x hri hmkr (by rw[hun];simp);have hl':m'.length=MS.length+1:=by have:=e3.len;simpa[hl]using this
     obtain⟨e,he⟩:∃e,m'[MS.length]?=some e:=⟨_,List.getElem?_eq_getElem (by omega)⟩;have hmove:=hMrel.move e3 e1 hl he hhole (by rw[hsame _ (.inl rfl)];exact hdead) (fun b=>by
      by_cases hb:b≠x.mem.length∧(b,true)∈x.fp
      ·exact .inr (hkill b hb.1 hb.2).1
      ·refine .inl (hsame b ?_);by_cases hbl:b=x.mem.length
       ·exact .inl hbl
       ·exact .inr fun h=>hb ⟨hbl,h⟩) hflat
     have hmS:mS.length=MS.length:=hMrel.len;have hset:(mS.set x.mem.length e)[x.mem.length]?=some e:=by rw[List.getElem?_set,if_pos rfl,if_pos (by omega)]
     have hre:real (mS.set x.mem.length e) x.r.v=some y:=by
      rcases hname with⟨o',h1,h2⟩|⟨o',l',ex,c,z,h1,h2⟩
      ·rw[h2]at e2;obtain⟨e',he',rfl⟩:=real_ptr e2;have:e'=e:=by have:=at_get he';rw[he]at this;cases this;rfl
       subst this;rw[h1];simp only[real,at_of hset (at_solid he')]
      ·rw[h2]at e2;obtain⟨e',cap,he',hcap,hle,rfl⟩:=real_slice e2;have:e'=e:=by have:=at_get he';rw[he]at this;cases this;rfl
       subst this;rw[h1];have q1:=at_of hset (at_solid he');have q2:at? m' MS.length=some e':=he';simp only[real,q1];simp only[real,q2]at e2;exact e2
     refine next y (mS.set x.mem.length e) w' (fun b d hb=>?_) (fun b d hb=>?_) (by simp) (fun q z' hq hz' hn=>?_) hre ⟨MS1.set x.mem.length k,hmove,after _ (fun b hb=>?_) fun b hb=>?_⟩ e3.gok
     ·have hne:b≠x.mem.length:=by
       rintro rfl;have:=at_get hb;rw[hhole]at this;cases this;have:=at_solid hb;simp[hole]at this
      exact at_of (by rw[List.getElem?_set_ne fun q=>hne q.symm];exact at_get hb) (at_solid hb)
     ·have hb':=hI.ext b d hb;have hlt:b<m.length:=(List.getElem?_eq_some_iff.1 hb).1;have:m.length=st.length:=hr.len;rw[List.getElem?_set_ne (by omega)];exact hb'
     ·have hqi:q≠i:=fun h=>hn (.inr h);have hh:=hI.hol q z' hq hz' fun h=>hn (.inl h);have hne:x.mem.length≠z'.mem.length:=by
       rcases Nat.lt_or_gt_of_ne hqi with h|h
       ·have:=hmk hq hri h hz';omega
       ·have:=hmk hri hq h hmkr;omega
      rw[List.getElem?_set_ne hne];exact hh
     ·rw[atF_set (by omega)];by_cases hbb:b=x.mem.length
      ·rw[if_pos hbb,hbb,hk1]
      ·rw[if_neg hbb,atF_some (hkill b hbb hb).1,(hkill b hbb hb).2]
     ·have hbb:b≠x.mem.length:=fun q=>hb (by rw[q];exact hin);rw[atF_set (by omega),if_neg hbb];unfold atF;rw[hsame b (.inr hb)]
    ·obtain⟨MS1,hov,hl,hw,hs⟩:=hstep MS (by rw[hML];exact(hfin hri).2.2) agree';refine opVal_uponG hc hF hT hMrel hov (noDefer_spec hnd ho) ?_;intro y m' w' e1 e2 e3;have hlen:m'.length=mS.length:=by have:=e3.len;rw[hl]at this;rw[this,hMrel.len]
     have hm':m'=mS:=by
      apply List.ext_getElem?;intro k;rcases Nat.lt_or_ge k mS.length with hk|hk
      ·rw[List.getElem?_eq_getElem hk];exact e1 k _ (List.getElem?_eq_getElem hk)
      ·rw[List.getElem?_eq_none hk,List.getElem?_eq_none (by omega)]
     subst hm';exact nextS y w' e2 ⟨MS1,e3,after MS1 hw fun b hb=>by unfold atF;rw[hs b hb]⟩ e3.gok
   ·simp only
    rw[if_pos (guardT_ok hT hg)]
    -- the memory is as it is told
    have hcutA:∀b q z,R[q]?=some z→(b,true)∈z.fp→(listed.getD q false=true↔q<i):=by
     intro b q z hq hz;rcases Nat.lt_trichotomy q i with h|h|h
     ·exact⟨fun _=>h,fun _=>hancS q (hbef q z b h hq hz)⟩
     ·subst h;exact⟨fun hS=>(by rw[hun]at hS;cases hS),fun h=>absurd h (Nat.lt_irrefl _)⟩
     ·refine⟨fun hS=>?_,fun h'=>by omega⟩;exfalso;obtain⟨oq,hoq,hsq⟩:=op_of hq;have hb:=hsq.2.2.2.1 b true hz i x h hri (.inr ⟨rfl,hall'⟩);have:=closed (fun j=>listed.getD j false=true) hcl q z oq hq hoq (hcl q oq hoq hS) i hb;rw[hun]at this;cases this
    have hat:∀b,atF MS b=atF x.mem b:=fun b=>by
     have:=hMS b i (by omega) (hcutA b);rwa [hmi]at this
    have hxl:=hfin hri;have hmS:mS.length=MS.length:=hMrel.len;have hMSe:MS=x.mem++deadsF (st'.length-x.mem.length):=by
     apply List.ext_getElem?;intro b;rcases Nat.lt_or_ge b MS.length with hb|hb
     ·rw[atF_get hb,hat b];rcases Nat.lt_or_ge b x.mem.length with hb'|hb'
      ·rw[List.getElem?_append_left hb',atF_get hb']
      ·rw[List.getElem?_append_right hb',atF_none hb'];unfold deadsF;rw[List.getElem?_replicate,if_pos (by omega)]
     ·rw[List.getElem?_eq_none hb,List.getElem?_eq_none (by simp[deadsF];omega)]
    -- the names behind are free: each is a maker's that is not carried out
    have hhole:∀b d,x.mem.length≤b→mS[b]?=some d→d=hole:=by
     intro b d hb hd;have hbl:b<st'.length:=by rw[←hI.len];exact(List.getElem?_eq_some_iff.1 hd).1
     obtain⟨q,z,hq,hz,hqb⟩:∃q z,R[q]?=some z∧z.mkr=true∧z.mem.length=b∧i<q:=by
      have grow:∀n,i+n≤R.length→b<(memF R st' (i+n)).length→∃q z,R[q]?=some z∧z.mkr=true∧z.mem.length=b∧i<q:=by
       intro n
       induction n with
       |zero=>intro _ h;rw[Nat.add_zero,hmi]at h;omega
       |succ n ihn=>
        intro hn h;rcases Nat.lt_or_ge b (memF R st' (i+n)).length with h'|h'
        ·exact ihn (by omega) h'
        ·obtain⟨z,hz⟩:∃z,R[i+n]?=some z:=⟨_,List.getElem?_eq_getElem (by omega)⟩;have e:memF R st' (i+n)=z.mem:=by unfold memF;rw[hz]
         have hs:=hsp hz;cases hk:z.mkr with
         |false=>rw[←Nat.add_assoc,hs.2.2.2 hk]at h;rw[e]at h';omega
         |true=>
          have:=(hs.2.2.1 hk).1;rw[←Nat.add_assoc,this]at h;rw[e]at h';refine⟨i+n,z,hz,hk,by omega,?_⟩;rcases Nat.eq_zero_or_pos n with h0|h0
          ·subst h0;rw[Nat.add_zero,hri]at hz;cases hz;have:=hm0;have h3:=(hs.2.2.1 hk).1;rw[Nat.add_zero,this]at h3;omega
          ·omega
      have hend:=grow (R.length-i) (by omega) (by
       rw[show i+(R.length-i)=R.length by omega,show memF R st' R.length=st' by unfold memF;rw[List.getElem?_eq_none (Nat.le_refl _)]];exact hbl)
      obtain⟨q,z,a1,a2,a3,a4⟩:=hend;exact⟨q,z,a1,a2,a3,a4⟩
     have hnS:¬(listed.getD q false=true):=fun hS=>by
      have:=(hcutA z.mem.length q z hq ((hsp hq).2.2.1 hz).2).1 hS;omega
     have:=hI.hol q z hq hz hnS;rw[hqb.1,hd]at this;cases this;rfl
    have hshort:Rel B W0 (mS.take x.mem.length) x.mem w:=by
     have:=hMrel.unpad (n:=x.mem.length) (by omega) fun b d hb hd=>by rw[hhole b d hb hd];rfl
     rw[show MS.take x.mem.length=x.mem by rw[hMSe,List.take_left]]at this;exact this
    have hmSe:mS=mS.take x.mem.length++holesF (st'.length-x.mem.length):=by
     apply List.ext_getElem?;intro b;rcases Nat.lt_or_ge b x.mem.length with hb|hb
     ·rw[List.getElem?_append_left (by rw[List.length_take];omega),List.getElem?_take,if_pos hb]
     ·rw[List.getElem?_append_right (by rw[List.length_take];omega),List.length_take,Nat.min_eq_left (by omega)];unfold holesF;rw[List.getElem?_replicate];rcases Nat.lt_or_ge b mS.length with hb'|hb'
      ·rw[if_pos (by rw[hI.len]at hb';omega),List.getElem?_eq_getElem hb',hhole b _ hb (List.getElem?_eq_getElem hb')]
      ·rw[if_neg (by rw[hI.len]at hb';omega),List.getElem?_eq_none hb']
    have hext:AExt mS (mS.take x.mem.length):=fun b d hb=>by
     have hlt':b<x.mem.length:=by
      rcases Nat.lt_or_ge b x.mem.length with h'|h'
      ·exact h'
      ·have:=hhole b d h' (at_get hb);have h2:=at_solid hb;rw[this]at h2;simp[hole]at h2
     exact at_of (by rw[List.getElem?_take,if_pos hlt'];exact at_get hb) (at_solid hb)
    have hT':∀t v,frameR f (dstsOf ops) x.r.anc (recsF (R.take i)) t=some v→∃y,a.tmps[t]?=some y∧real (mS.take x.mem.length) v=some y:=fun t v hv=>by
     obtain⟨y,h1,h2⟩:=hT t v hv;exact⟨y,h1,real_amono hext v y h2⟩
    refine vals_upon hc hF hT' hshort (.inr ⟨rfl,hsee⟩) (noDefer_spec hnd ho) ?_;intro y m' w' e1 e2 e3;have hlm':m'.length=x.mem.length:=e3.len;have hm':m'=mS.take x.mem.length:=by
     have hlt':(mS.take x.mem.length).length=x.mem.length:=by rw[List.length_take];omega
     apply List.ext_getElem?;intro k;rcases Nat.lt_or_ge k (mS.take x.mem.length).length with hk|hk
     ·rw[List.getElem?_eq_getElem hk];exact e1 k _ (List.getElem?_eq_getElem hk)
     ·rw[List.getElem?_eq_none hk,List.getElem?_eq_none (by omega)]
    subst hm';have hpad:=e3.pad (st'.length-x.mem.length);rw[←hmSe,←hMSe]at hpad;exact nextS y w' (by rw[hmSe];exact real_mono (fun b d hb=>by rw[List.getElem?_append_left (List.getElem?_eq_some_iff.1 hb).1];exact hb) _ _ e2) ⟨MS,hpad,after MS (fun b hb=>by rw[hfp]at hb;cases hb) fun b _=>rfl⟩ e3.gok
 have hlm:m.length=st.length:=hr.len;have hge:st.length≤st'.length:=by
  have:=hmono (i:=0) (q:=R.length) (by omega) (Nat.le_refl _);rwa [hmem0,show memF R st' R.length=st' by unfold memF;rw[List.getElem?_eq_none (Nat.le_refl _)]]at this
 have hpad:=hr.drew'.pad (st'.length-st.length);have hextP:Ext m (m++holesF (st'.length-st.length)):=fun b e hb=>by
  rw[List.getElem?_append_left (List.getElem?_eq_some_iff.1 hb).1];exact hb
 refine wpIn_region_any hm (key ops.size (Array.replicate ops.size false) a _ (m++holesF (st'.length-st.length)) (by simp) ?_ ?_ ?_)
 ·intro j o hj hl;simp[Array.getD_eq_getD_getElem?,Array.getElem?_replicate]at hl;split at hl<;>simp at hl
 ·have hno:∀j,¬((Array.replicate ops.size false).getD j false=true):=by
   intro j hl;simp[Array.getD_eq_getD_getElem?,Array.getElem?_replicate]at hl;split at hl<;>simp at hl
  refine⟨by simp[holesF,hlm];omega,hextP,⟨st++deadsF (st'.length-st.length),hpad,fun b j hj hcut=>?_⟩,fun q y hq hy _=>?_,hA.tmps.1,fun j x d _ hS=>absurd hS (hno j),fun t v _ hv=>?_,hA.defers,hr.drew'.gok⟩
  ·have:=memF_const (R:=R) (fin:=st') (b:=b) (hconst b) (j:=0) j (by omega) fun q z hq hz hb=>hno q ((hcut q z hq hz).2 (by omega));rw[Nat.zero_add]at this;rw[this,hmem0];unfold atF deadsF;rcases Nat.lt_or_ge b st.length with hb|hb
   ·rw[List.getElem?_append_left hb]
   ·rw[List.getElem?_eq_none hb,List.getElem?_append_right hb,List.getElem?_replicate];split<;>rfl
  ·have h1:=(hfin hq).2.1;have h2:=((hsp hq).2.2.1 hy).1;have h3:=hmono (i:=q+1) (q:=R.length) (by have:=(List.getElem?_eq_some_iff.1 hq).1;omega) (Nat.le_refl _);rw[show memF R st' R.length=st' by unfold memF;rw[List.getElem?_eq_none (Nat.le_refl _)]]at h3;rw[List.getElem?_append_right (by omega)];unfold holesF;rw[List.getElem?_replicate,if_pos (by omega)]
  ·obtain⟨x,h1,h2⟩:=hA.tmps.2 t v hv;exact⟨x,h1,real_mono hextP _ _ h2⟩
 ·have:=List.length_filter_le (fun j=>!(Array.replicate ops.size false).getD j false) (List.range ops.size);simpa using this
end
end Go.Vm
namespace Go.Vm
variable [G:Glob] [Φ:Frz]
set_option linter.unusedSectionVars false
set_option linter.unusedVariables false
open Go.RowKit
section
variable {P:Program} {call:Call} {ro:Option Nat} {f:Fr} {st:St} {Q:Exit→Fr→St→Prop} {B:Nat} {W0 w:World} {m:List MB}
theorem Rel.push(h:Rel B W0 m st w){o:Obj}{b:Blk}{e:MB}(he:e.blk=w.heap.size)(hb:BlkOk B (m++[e]) (w.alloc o) e b):Rel B W0 (m++[e]) (st++[b]) (w.alloc o):=
 h.newb ((Below.refl _ _).alloc (Nat.le_refl _) _) he hb
theorem only_putObj(w:World)(k:Nat)(o:Obj):Only k w (w.putObj k o):=⟨rfl,rfl,rfl,by simp,fun j hj=>World.putObj_heap_other hj⟩
def putAll(T:Tr):List Tmp→List V→Tr
 |t::r,v::s=>putAll (T.put t v) r s
 |_,_=>T
theorem putAll_ok{sz:Nat}:∀{ts:List Tmp} {vs:List V} {T:Tr} {tmps:Array Value} {xs:List Value},TOk m sz T.get tmps→realL m vs=some xs→(ts.all fun t=>Nat.blt t sz)=true→
  TOk m sz (putAll T ts vs).get ((ts.zip xs).foldl (fun(tmps:Array Value) (p:Tmp×Value)=>tmps.setIfInBounds p.1 p.2) tmps)
 |[],vs,T,tmps,xs,h,_,_=>by simpa[putAll]using h
 |t::r,[],T,tmps,xs,h,hx,_=>by simp only[realL,Option.some.injEq]at hx;subst hx;simpa[putAll]using h
 |t::r,v::s,T,tmps,xs,h,hx,ht=>by
  obtain⟨a,b,h1,h2,rfl⟩:=realL_cons hx;simp only[List.all_cons,Bool.and_eq_true]at ht;simp only[putAll,List.zip_cons_cons,List.foldl_cons];refine putAll_ok ?_ h2 ht.2;have hd:=blt_true ht.1;refine⟨by simp[h.1],fun i u hu=>?_⟩;rw[Array.getElem?_setIfInBounds];rcases Tr.get_put hu with⟨rfl,rfl⟩|⟨hne,ho⟩
  ·exact⟨a,by simp[h.1,hd],h1⟩
  ·obtain⟨y,g1,g2⟩:=h.2 i u ho;exact⟨y,by rw[if_neg (fun q=>hne q.symm)];exact g1,g2⟩
def jumpOf:Exit→Option (Option Code)
 |.normal=>some none
 |.ret=>some (some .ret)
 |.exit id=>some (some (.exit id))
 |_=>none
theorem sat_round{l:Nat}{args:List V}{sz:Nat}{T:Tr}{params:Array Tmp}{assign body:Code}{dn:Nat}(hl:st[l]?=some (.loop .ready none sz T params assign body dn))(hlen:args.length=params.size)
  (hp:(params.toList.all fun t=>Nat.blt t sz)=true){R:V→St→Prop}
  (h:CodeSat P (some l) assign ⟨sz,putAll T params.toList args,[]⟩ st (Nxt (fun f1 s1=>∃sz' T' ps' as' bd' dn',s1[l]?=some (.loop .ready none sz' T' ps' as' bd' dn')∧
    CodeSat P (some l) body f1 (s1.set l (.loop .busy none sz' T' ps' as' bd' dn')) (fun e f2 s2=>∃j stt pend sz2 T2 ps2 as2 bd2 dn2,jumpOf e=some j∧s2[l]?=some (.loop stt pend sz2 T2 ps2 as2 bd2 dn2)∧
     R (.bool j.isNone) (s2.set l (.loop (if j.isNone then .ready else .done) j sz2 T2 ps2 as2 bd2 dn2)))) (fun _ _ _=>False))):
  YldSat P l args st R:=by
 intro B W0 m w rargs e hargs hr he;obtain⟨hB,fn,tmps,d,hd,hheap,hT⟩:=hr.blk l _ e hl he;have hsz:rargs.length=params.size:=by rw[realL_len hargs,hlen]
 refine⟨fn,_,assign,body,run_yield hheap (by simp[hsz]),?_⟩;refine roundIn_of_wpIn (F:=Fence.wide) (n:=0) trivial ?_;have hF:FOk m (some l) (Fence.wide.inRound e.blk):=.inr ⟨l,e,rfl,he,rfl⟩;have hA:AOk m ⟨sz,putAll T params.toList args,[]⟩ {tmps:=(params.zip rargs.toArray).foldl (fun tmps (t,a)=>tmps.setIfInBounds t a) tmps,defers:=[]}:=by
  refine⟨?_,trivial⟩;have:=putAll_ok hT hargs hp;have e1:(params.zip rargs.toArray).foldl (fun tmps (x:Tmp×Value)=>tmps.setIfInBounds x.1 x.2) tmps=(params.toList.zip rargs).foldl (fun(tmps:Array Value) (p:Tmp×Value)=>tmps.setIfInBounds p.1 p.2) tmps:=by
   rw[←Array.foldl_toList,Array.toList_zip]
  rw[←e1]at this;exact this
 refine wpIn_mono (h B W0 m _ w _ hF hA hr) ?_;rintro x a1 w1 ⟨m1,f1,s1,e1,e2,e3,e4⟩;cases x with
 |normal=>
  obtain⟨sz',T',ps',as',bd',dn',hl1,hbody⟩:=e4;have he1:=e1 _ _ he;obtain⟨hB1,fn1,tmps1,d1,hd1,hheap1,hT1⟩:=e3.blk l _ e hl1 he1;refine⟨_,run_beginRound hheap1 rfl,?_⟩;have hlt:e.blk<w1.heap.size:=(Array.getElem?_eq_some_iff.1 hheap1).1;have hr1:Rel B W0 m1 (s1.set l (.loop .busy none sz' T' ps' as' bd' dn')) (w1.putObj e.blk (.loop {state:=.busy,pending:=none,fn:=fn1,tmps:=tmps1,params:=ps',assign:=as',body:=bd',defers:=d1.blk})):=
   e3.update hl1 rfl he1 (only_putObj _ _ _) ⟨hB1,fn1,tmps1,d1,hd1,World.putObj_heap_same hlt,hT1⟩
  refine wpIn_mono (hbody B W0 m1 a1 _ _ (hF.mono e1) e2 hr1) ?_;rintro x a2 w2 ⟨m2,f2,s2,g1,g2,g3,j,stt,pend,sz2,T2,ps2,as2,bd2,dn2,hj,hl2,hR⟩;have he2:=g1 _ _ he1;obtain⟨hB2,fn2,tmps2,d2,hd2,hheap2,hT2⟩:=g3.blk l _ e hl2 he2;have hlt2:e.blk<w2.heap.size:=(Array.getElem?_eq_some_iff.1 hheap2).1;have hr2:Rel B W0 m2 (s2.set l (.loop (if j.isNone then .ready else .done) j sz2 T2 ps2 as2 bd2 dn2)) (w2.putObj e.blk (.loop {state:=if j.isNone then .ready else .done,pending:=j,fn:=fn2,tmps:=tmps2,params:=ps2,assign:=as2,body:=bd2,defers:=d2.blk})):=
   g3.update hl2 rfl he2 (only_putObj _ _ _) ⟨hB2,fn2,tmps2,d2,hd2,World.putObj_heap_same hlt2,hT2⟩
  have fin:∃v w',(Instr.endRound e.blk j).run P w2=.ok v w'∧Ret B W0 m R (.returned v) w':=
   ⟨_,_,run_endRound j hheap2,.bool j.isNone,_,m2,_,rfl,e1.trans g1,rfl,hr2,hR⟩
  cases x<;>simp only[jumpOf,Option.some.injEq]at hj<;>first|(subst hj;exact fin)|cases hj
 |_=>exact e4.elim
theorem run_enterLoop_inner{l:Nat}{r:Loop}(h:w.heap[l]?=some (.loop r))(fn:FuncId)(tmps:Array Value)(ps:Array Tmp)(assign body:Code):
  (Instr.enterLoop fn tmps ps assign body (some l)).run P w=
    .ok (w.heap.size,[]) (w.alloc (.loop {state:=.ready,pending:=none,fn,tmps,params:=ps,assign,body,defers:=r.defers})):=by
 simp[Instr.enterLoop,run_getLoop h]
def afterLoop(Q:Exit→Fr→St→Prop)(f:Fr)(st:St):Option Code→Prop
 |none=>Q .normal f st
 |some .ret=>Q .ret f st
 |some (.exit id)=>Q (.exit id) f st
 |_=>False
theorem after_ok{l:Nat}{e:MB}{F:Fence}{a:Act}(hF:FOk m ro F)(hA:AOk m f a)(hr:Rel B W0 m st w)(he:m[l]?=some e){stt:LoopState}{pend:Option Code}{sz:Nat}{T:Tr}{ps:Array Tmp}{as bd:Code}{dn:Nat}
  (hl:st[l]?=some (.loop stt pend sz T ps as bd dn))(hs:stt≠.busy)(hq:afterLoop Q f (st.set l .dead) pend):
  ∃jump w4,(Instr.endLoop e.blk).run P w=.ok jump w4∧(match jump with
   |none=>Post B W0 m Q .normal a w4
   |some c=>c.wpIn F 0 P (Post B W0 m Q) a w4):=by
 obtain⟨hB,fn,tmps,d,hd,hheap,hT⟩:=hr.blk l _ e hl he;have hr2:=hr.update (b':=.dead) hl rfl he (only_putObj w e.blk (.loop {state:=.exhausted,pending:=pend,fn:=fn,tmps:=tmps,params:=ps,assign:=as,body:=bd,defers:=d.blk})) trivial;refine⟨_,_,run_endLoop hheap hs,?_⟩;simp only
 unfold afterLoop at hq;split at hq
 ·exact⟨m,f,_,Ext.refl m,hA,hr2,hq⟩
 ·exact wpIn_ret ⟨m,f,_,Ext.refl m,hA,hr2,hq⟩
 ·exact wpIn_exit ⟨m,f,_,Ext.refl m,hA,hr2,hq⟩
 ·exact hq.elim
theorem call_range{g:Operand}{h:FuncId}{fs cs:List V}{a:Act}(hA:AOk m f a)(hg:ev f.T.get g=some (.func (.func h) fs cs))(hp:plainFn P h=true)(L:Nat)(w:World):
  ∃rfs rcs,realL m fs=some rfs∧realL m cs=some rcs∧
   (resolve a.eval (rangeCall g L) 0).run P w=.ok {target:=.fn (.func h) rcs.toArray,args:=rfs.toArray++#[Value.func (.yield L) #[] #[]]} w∧
   (invoke (.fn (.func h) rcs.toArray) (rfs.toArray++#[Value.func (.yield L) #[] #[]])).run P w=.ok (.enter h (rfs++[Value.func (.yield L) #[] #[]]++rcs).toArray) w:=by
 have h1:=hA.ev _ _ hg;simp only[real]at h1;split at h1
 ·rename_i rfs rcs hfs hcs;refine⟨rfs,rcs,hfs,hcs,?_,?_⟩
  ·simp only[resolve];rw[←Option.some.inj h1];simp[Deferred.ofValue,Act.eval]
  ·simp only[invoke];rw[run_callFunc hp];congr 2;apply Array.ext';simp
 ·cases h1
theorem sat_range{g:Operand}{ps:Array Tmp}{assign body:Code}{h:FuncId}{fs cs:List V}(hg:ev f.T.get g=some (.func (.func h) fs cs))(hp:plainFn P h=true)
  (hcall:FnSat P h (fs++[.yield (st.length+1)]++cs) (st++[.defd,.loop .ready none f.sz f.T ps assign body st.length]) (fun _ s2=>∃stt pend sz T ps as bd dn,s2[st.length+1]?=some (.loop stt pend sz T ps as bd dn)∧stt≠.busy∧
    afterLoop Q ⟨f.sz,f.T,st.length::f.defs⟩ (s2.set (st.length+1) .dead) pend)):
  CodeSat P none (.rangeFunc g ps assign body) f st Q:=by
 intro B W0 m a w F hF hA hr;obtain⟨_,rfl⟩|⟨_,_,hh,_⟩:=hF
 case inr=>cases hh
 refine wpIn_rangeFunc fun fn _=>?_
 -- the two blocks
 have hr1:Rel B W0 (m++[⟨w.heap.size,0,0,false⟩]) (st++[.defd]) (w.alloc (.deferred (some []))):=hr.push rfl ⟨hr.base,heap_alloc_new w _⟩;have e1:=Ext.snoc m ⟨w.heap.size,0,0,false⟩;have e2:=Ext.snoc (m++[⟨w.heap.size,0,0,false⟩]) ⟨w.heap.size+1,0,0,false⟩;have hm1:((m++[⟨w.heap.size,0,0,false⟩])++[⟨w.heap.size+1,0,0,false⟩])[st.length]?=some ⟨w.heap.size,0,0,false⟩:=by
  refine e2 _ _ ?_;rw[←hr.len,List.getElem?_append_right (Nat.le_refl _)];simp
 have hm2:((m++[⟨w.heap.size,0,0,false⟩])++[⟨w.heap.size+1,0,0,false⟩])[st.length+1]?=some ⟨w.heap.size+1,0,0,false⟩:=by
  rw[←hr.len,List.getElem?_append_right (by simp)];simp
 have hr2:Rel B W0 ((m++[⟨w.heap.size,0,0,false⟩])++[⟨w.heap.size+1,0,0,false⟩]) ((st++[.defd])++[.loop .ready none f.sz f.T ps assign body st.length])
   ((w.alloc (.deferred (some []))).alloc (.loop {state:=.ready,pending:=none,fn,tmps:=a.tmps,params:=ps,assign,body,defers:=w.heap.size})):=
  hr1.push (by simp) ⟨by have:=hr.base;simp only;omega,fn,a.tmps,⟨w.heap.size,0,0,false⟩,at_of hm1 rfl,by
   have:=heap_alloc_new (w.alloc (.deferred (some []))) (.loop {state:=.ready,pending:=none,fn,tmps:=a.tmps,params:=ps,assign,body,defers:=w.heap.size});rw[World.size_alloc]at this;exact this,(hA.mono (e1.trans e2)).tmps⟩
 rw[List.append_assoc st]at hr2;have hA2:=hA.mono (e1.trans e2);obtain⟨rfs,rcs,hfs,hcs,hres,hinv⟩:=call_range (P:=P) hA2 hg hp (w.heap.size+1) ((w.alloc (.deferred (some []))).alloc (.loop {state:=.ready,pending:=none,fn,tmps:=a.tmps,params:=ps,assign,body,defers:=w.heap.size}));have hy:real ((m++[⟨w.heap.size,0,0,false⟩])++[⟨w.heap.size+1,0,0,false⟩]) (.yield (st.length+1))=some (.func (.yield (w.heap.size+1)) #[] #[]):=by simp only[real,at_of hm2 rfl]
 have hc:=hcall B W0 _ _ _ (realL_append (realL_append hfs (realL_mk hy rfl)) hcs) hr2;refine⟨_,_,_,_,_,h,_,_,run_enterLoop_outer fn a.tmps ps assign body,hres,fun _ _=>trivial,hinv,fun h=>(by cases h),callsIn_wide.2 (hc.mono ?_)⟩;rintro e w3 ⟨v,x,m3,s3,rfl,g1,g2,g3,stt,pend,sz,T,ps',as',bd',dn',hl,hs,haft⟩;have hA3:AOk m3 ⟨f.sz,f.T,st.length::f.defs⟩ {a with defers:=[{target:=.collected w.heap.size,args:=#[]}]++a.defers}:=
  ⟨(hA2.mono g1).tmps,⟨_,g1 _ _ hm1,rfl⟩,(hA2.mono g1).defers⟩
 obtain⟨jump,w4,j1,j2⟩:=after_ok (P:=P) (Q:=Q) (F:=Fence.wide) (ro:=none) (.inl ⟨rfl,rfl⟩) hA3 g3 (g1 _ _ hm2) hl hs haft;refine⟨jump,w4,j1,?_⟩;have up:∀e a w,Post B W0 m3 Q e a w→Post B W0 m Q e a w:=fun _ _ _ hp=>hp.up ((e1.trans e2).trans g1);cases jump with
 |none=>exact up _ _ _ j2
 |some c=>exact wpIn_mono j2 up
theorem sat_range_in{l0:Nat}{g:Operand}{ps:Array Tmp}{assign body:Code}{h:FuncId}{fs cs:List V}(hg:ev f.T.get g=some (.func (.func h) fs cs))(hp:plainFn P h=true)
  {st0:LoopState}{pe0:Option Code}{sz0:Nat}{T0:Tr}{ps0:Array Tmp}{as0 bd0:Code}{dn0:Nat}(hl0:st[l0]?=some (.loop st0 pe0 sz0 T0 ps0 as0 bd0 dn0))
  (hcall:FnSat P h (fs++[.yield st.length]++cs) (st++[.loop .ready none f.sz f.T ps assign body dn0]) (fun _ s2=>∃stt pend sz T ps as bd dn,s2[st.length]?=some (.loop stt pend sz T ps as bd dn)∧stt≠.busy∧
    afterLoop Q f (s2.set st.length .dead) pend)):
  CodeSat P (some l0) (.rangeFunc g ps assign body) f st Q:=by
 intro B W0 m a w F hF hA hr;have hF0:=hF;obtain⟨hh,_⟩|⟨l',e0,hh,he0,rfl⟩:=hF
 ·cases hh
 cases hh;obtain⟨hB0,fn0,tmps0,d0,hd0,hheap0,hT0⟩:=hr.blk l0 _ e0 hl0 he0;refine wpIn_rangeFunc fun fn _=>?_;have e1:=Ext.snoc m ⟨w.heap.size,0,0,false⟩;have hm2:(m++[⟨w.heap.size,0,0,false⟩])[st.length]?=some ⟨w.heap.size,0,0,false⟩:=by
  rw[←hr.len,List.getElem?_append_right (Nat.le_refl _)];simp
 have hr2:Rel B W0 (m++[⟨w.heap.size,0,0,false⟩]) (st++[.loop .ready none f.sz f.T ps assign body dn0])
   (w.alloc (.loop {state:=.ready,pending:=none,fn,tmps:=a.tmps,params:=ps,assign,body,defers:=d0.blk})):=
  hr.push rfl ⟨hr.base,fn,a.tmps,d0,at_mono e1 hd0,heap_alloc_new w _,(hA.mono e1).tmps⟩
 have hA2:=hA.mono e1;obtain⟨rfs,rcs,hfs,hcs,hres,hinv⟩:=call_range (P:=P) hA2 hg hp w.heap.size (w.alloc (.loop {state:=.ready,pending:=none,fn,tmps:=a.tmps,params:=ps,assign,body,defers:=d0.blk}));have hy:real (m++[⟨w.heap.size,0,0,false⟩]) (.yield st.length)=some (.func (.yield w.heap.size) #[] #[]):=by simp only[real,at_of hm2 rfl]
 have hc:=hcall B W0 _ _ _ (realL_append (realL_append hfs (realL_mk hy rfl)) hcs) hr2;refine⟨_,_,_,_,_,h,_,_,run_enterLoop_inner hheap0 fn a.tmps ps assign body,hres,fun _ _=>trivial,hinv,fun h=>(by cases h),(callsIn_wide (n:=0)).2 (hc.mono ?_)⟩;rintro e w3 ⟨v,x,m3,s3,rfl,g1,g2,g3,stt,pend,sz,T,ps',as',bd',dn',hl,hs,haft⟩;have hA3:AOk m3 f {a with defers:=[]++a.defers}:=hA2.mono g1;obtain⟨jump,w4,j1,j2⟩:=after_ok (P:=P) (Q:=Q) (ro:=some l0) ((hF0.mono e1).mono g1) hA3 g3 (g1 _ _ hm2) hl hs haft;refine⟨jump,w4,j1,?_⟩;have up:∀e a w,Post B W0 m3 Q e a w→Post B W0 m Q e a w:=fun _ _ _ hp=>hp.up (e1.trans g1);cases jump with
 |none=>exact up _ _ _ j2
 |some c=>exact wpIn_mono j2 up
end
variable {α:Type}
def forceN(n:Nat)(k:Nat→α):α:=Nat.rec (motive:=fun _=>α) (k 0) (fun m _=>k (Nat.succ m)) n
theorem forceN_eq(n:Nat)(k:Nat→α):forceN n k=k n:=by cases n<;>rfl
def forceI(n:Int)(k:Int→α):α:=match n with
 |.ofNat n=>forceN n fun n=>k (.ofNat n)
 |.negSucc n=>forceN n fun n=>k (.negSucc n)
theorem forceI_eq(n:Int)(k:Int→α):forceI n k=k n:=by cases n<;>simp only[forceI,forceN_eq]
def forceB(b:Bool)(k:Bool→α):α:=match b with
 |true=>k true
 |false=>k false
theorem forceB_eq(b:Bool)(k:Bool→α):forceB b k=k b:=by cases b<;>rfl
def forceS:List UInt8→(List UInt8→α)→α
 |[],k=>k []
 |b::r,k=>forceN b.toNat fun n=>forceS r fun r=>k (UInt8.ofNat n::r)
theorem forceS_eq:∀(l:List UInt8) (k:List UInt8→α),forceS l k=k l
 |[],k=>rfl
 |b::r,k=>by simp only[forceS,forceN_eq,forceS_eq r,UInt8.ofNat_toNat]
mutual
def forceV:V→(V→α)→α
 |.bool b,k=>forceB b fun b=>k (.bool b)
 |.int kd n,k=>forceI n fun n=>k (.int kd n)
 |.str l,k=>forceS l fun l=>k (.str l)
 |.ptr b off,k=>forceN b fun b=>forceN off fun off=>k (.ptr b off)
 |.slice b off len ex c z,k=>forceN b fun b=>forceN off fun off=>forceN len fun len=>forceB ex fun ex=>forceN c fun c=>forceN z fun z=>k (.slice b off len ex c z)
 |.func fn fs cs,k=>forceL fs fun fs=>forceL cs fun cs=>k (.func fn fs cs)
 |.yield l,k=>forceN l fun l=>k (.yield l)
 |.map l,k=>forceN l fun l=>k (.map l)
 |.nos b n,k=>forceN b fun b=>forceN n fun n=>k (.nos b n)
 |.iface t v,k=>forceV v fun v=>k (.iface t v)
 |.agg cs,k=>forceL cs fun cs=>k (.agg cs)
 |.tuple cs,k=>forceL cs fun cs=>k (.tuple cs)
 |.gp b off,k=>forceN b fun b=>forceN off fun off=>k (.gp b off)
 |v,k=>k v
def forceL:List V→(List V→α)→α
 |[],k=>k []
 |v::r,k=>forceV v fun v=>forceL r fun r=>k (v::r)
end
mutual
theorem forceV_eq:∀(v:V) (k:V→α),forceV v k=k v
 |.bool b,k=>by simp only[forceV,forceB_eq]
 |.int kd n,k=>by simp only[forceV,forceI_eq]
 |.str l,k=>by simp only[forceV,forceS_eq]
 |.ptr b off,k=>by simp only[forceV,forceN_eq]
 |.slice b off len ex c z,k=>by simp only[forceV,forceN_eq,forceB_eq]
 |.func fn fs cs,k=>by simp only[forceV,forceL_eq fs,forceL_eq cs]
 |.yield l,k=>by simp only[forceV,forceN_eq]
 |.map l,k=>by simp only[forceV,forceN_eq]
 |.nos b n,k=>by simp only[forceV,forceN_eq]
 |.iface t v,k=>by simp only[forceV,forceV_eq v]
 |.agg cs,k=>by simp only[forceV,forceL_eq cs]
 |.tuple cs,k=>by simp only[forceV,forceL_eq cs]
 |.gp b off,k=>by simp only[forceV,forceN_eq]
 |.nilPtr,k|.nilSlice,k|.nilFunc,k|.nilIface,k|.nilMap,k|.lst ..,k|.lptr ..,k=>by simp only[forceV]
theorem forceL_eq:∀(l:List V) (k:List V→α),forceL l k=k l
 |[],k=>rfl
 |v::r,k=>by simp only[forceL,forceV_eq v,forceL_eq r]
end
def forceM:St→(St→α)→α
 |[],k=>k []
 |.ro o cs::r,k=>forceL cs fun cs=>forceM r fun r=>k (.ro o cs::r)
 |.row cs t sz::r,k=>forceL cs fun cs=>forceN sz fun sz=>forceM r fun r=>k (.row cs t sz::r)
 |.mp cs::r,k=>forceL cs fun cs=>forceM r fun r=>k (.mp cs::r)
 |.sit s p::r,k=>forceS s fun s=>forceN p fun p=>forceM r fun r=>k (.sit s p::r)
 |b::r,k=>forceM r fun r=>k (b::r)
theorem forceM_eq:∀(s:St) (k:St→α),forceM s k=k s
 |[],k=>rfl
 |.ro o cs::r,k=>by simp only[forceM,forceL_eq,forceM_eq r]
 |.row cs t sz::r,k=>by simp only[forceM,forceL_eq,forceN_eq,forceM_eq r]
 |.dead::r,k=>by simp only[forceM,forceM_eq r]
 |.defd::r,k=>by simp only[forceM,forceM_eq r]
 |.mpu::r,k=>by simp only[forceM,forceM_eq r]
 |.mp cs::r,k=>by simp only[forceM,forceL_eq,forceM_eq r]
 |.sit s p::r,k=>by simp only[forceM,forceS_eq,forceN_eq,forceM_eq r]
 |.loop ..::r,k=>by simp only[forceM,forceM_eq r]
def forced(lim:Nat)(args:List V)(st:St)(k:List V→St→Option (V×St)):Option (V×St):=bif Nat.ble 1000 lim then forceL args fun args=>forceM st fun st=>(match k args st with
 |some (v,s)=>forceV v fun v=>forceM s fun s=>some (v,s)
 |none=>none)else k args st
theorem forced_eq(lim:Nat)(args:List V)(st:St)(k:List V→St→Option (V×St)):forced lim args st k=k args st:=by
 unfold forced;cases Nat.ble 1000 lim with
 |false=>rfl
 |true=>
  rw[cond_true];simp only[forceL_eq,forceM_eq];cases k args st with
  |none=>rfl
  |some q=>obtain⟨v,s⟩:=q;simp only[forceV_eq]
mutual
def softV:V→(V→α)→α
 |.ptr b off,k=>forceN b fun b=>forceN off fun off=>k (.ptr b off)
 |.func fn fs cs,k=>softL fs fun fs=>softL cs fun cs=>k (.func fn fs cs)
 |.map l,k=>forceN l fun l=>k (.map l)
 |v,k=>k v
def softL:List V→(List V→α)→α
 |[],k=>k []
 |v::r,k=>softV v fun v=>softL r fun r=>k (v::r)
end
mutual
theorem softV_eq:∀(v:V) (k:V→α),softV v k=k v
 |.ptr b off,k=>by simp only[softV,forceN_eq]
 |.func fn fs cs,k=>by simp only[softV,softL_eq fs,softL_eq cs]
 |.map l,k=>by simp only[softV,forceN_eq]
 |.bool _,k|.int _ _,k|.str _,k|.slice ..,k|.yield _,k|.nos ..,k|.iface ..,k|.agg _,k|.tuple _,k|.gp ..,k|.nilPtr,k|.nilSlice,k|.nilFunc,k|.nilIface,k|.nilMap,k|.lst ..,k|.lptr ..,k=>by simp only[softV]
theorem softL_eq:∀(l:List V) (k:List V→α),softL l k=k l
 |[],k=>rfl
 |v::r,k=>by simp only[softL,softV_eq v,softL_eq r]
end
def softM:St→(St→α)→α
 |[],k=>k []
 |.row cs t sz::r,k=>softL cs fun cs=>forceN sz fun sz=>softM r fun r=>k (.row cs t sz::r)
 |.mp cs::r,k=>softL cs fun cs=>softM r fun r=>k (.mp cs::r)
 |b::r,k=>softM r fun r=>k (b::r)
theorem softM_eq:∀(s:St) (k:St→α),softM s k=k s
 |[],k=>rfl
 |.row cs t sz::r,k=>by simp only[softM,softL_eq,forceN_eq,softM_eq r]
 |.mp cs::r,k=>by simp only[softM,softL_eq,softM_eq r]
 |.ro _ _::r,k=>by simp only[softM,softM_eq r]
 |.dead::r,k=>by simp only[softM,softM_eq r]
 |.defd::r,k=>by simp only[softM,softM_eq r]
 |.mpu::r,k=>by simp only[softM,softM_eq r]
 |.sit _ _::r,k=>by simp only[softM,softM_eq r]
 |.loop ..::r,k=>by simp only[softM,softM_eq r]
end Go.Vm
namespace Go.Vm
variable [G:Glob] [Φ:Frz]
set_option linter.unusedSectionVars false
set_option linter.unusedVariables false
open Go.RowKit
def initT(k:Nat)(T:Tr):List V→Tr
 |[]=>T
 |v::r=>initT (k+1) (T.put k v) r
theorem initT_get:∀{vs:List V} {k:Nat} {T:Tr} {i:Nat} {u:V},(initT k T vs).get i=some u→(∃j,i=k+j∧vs[j]?=some u)∨T.get i=some u
 |[],k,T,i,u,h=>.inr h
 |v::r,k,T,i,u,h=>by
  rcases initT_get (vs:=r) (k:=k+1) (T:=T.put k v) h with⟨j,rfl,hj⟩|h
  ·exact .inl ⟨j+1,by omega,by simpa using hj⟩
  ·rcases Tr.get_put h with⟨rfl,rfl⟩|⟨_,h⟩
   ·exact .inl ⟨0,by omega,by simp⟩
   ·exact .inr h
def resV(P:Program)(st:St)(f:Fr):ResultVar→Option V
 |.tmp t=>f.T.get t
 |.cell a t=>match f.T.get a with
  |some (.ptr b off)=>loadV P st t b off
  |_=>none
def resL(P:Program)(st:St)(f:Fr):List ResultVar→Option (List V)
 |[]=>some []
 |x::r=>match resV P st f x,resL P st f r with
  |some v,some l=>some (v::l)
  |_,_=>none
def packV:List V→V
 |[v]=>v
 |vs=>.tuple vs
def killDefs:List Nat→St→Option St
 |[],st=>some st
 |d::r,st=>match st[d]? with
  |some .defd=>killDefs r (st.set d .dead)
  |_=>none
def leaveV(P:Program)(fn:Func)(f:Fr)(st:St):Option (V×St):=
 match killDefs f.defs st with
 |some st2=>match resL P st2 f fn.results.toList with
  |some l=>some (packV l,st2)
  |none=>none
 |none=>none
section
variable {P:Program} {call:Call} {ro:Option Nat} {f:Fr} {st:St} {B:Nat} {W0 w:World} {m:List MB}
def resSem(tmps:Array Value):ResultVar→Sem Value
 |.tmp t=>pure (tmps.getD t undef)
 |.cell b t=>do loadVar t (←asAddr (tmps.getD b undef))
theorem results_eq(fn:Func)(tmps:Array Value):results fn tmps=(do
 let vs←fn.results.mapM (resSem tmps)
 pure (if h:vs.size=1 then vs[0]else .tuple vs)):=rfl
theorem resL_ok{a:Act}(hA:TOk m f.sz f.T.get a.tmps)(hr:Rel B W0 m st w):∀(l:List ResultVar) (vs:List V),resL P st f l=some vs→∃xs,realL m vs=some xs∧(l.mapM (resSem a.tmps)).run P w=.ok xs w
 |[],vs,h=>by simp only[resL,Option.some.injEq]at h;subst h;exact⟨[],rfl,by simp⟩
 |x::r,vs,h=>by
  simp only[resL]at h;cases h1:resV P st f x with
  |none=>simp[h1]at h
  |some v=>
   cases h2:resL P st f r with
   |none=>simp[h1,h2]at h
   |some l=>
    simp only[h1,h2,Option.some.injEq]at h;subst h;obtain⟨xs,hxs,hrun⟩:=resL_ok hA hr r l h2;cases x with
    |tmp t=>
     obtain⟨y,g1,g2⟩:=hA.2 t v h1;refine⟨y::xs,realL_mk g2 hxs,?_⟩;have:a.tmps.getD t undef=y:=by simp[Array.getD_eq_getD_getElem?,g1]
     simp only[List.mapM_cons,Sem.run_bind,resSem,this,Sem.run_pure,Result.andThen_ok,hrun]
    |cell b t=>
     simp only[resV]at h1;split at h1
     ·rename_i bb off hb;obtain⟨y,g1,g2⟩:=hA.2 b _ hb;obtain⟨z,hz,hl⟩:=loadV_ok (P:=P) hr h1 g2;refine⟨z::xs,realL_mk hz hxs,?_⟩;have h3:a.tmps.getD b undef=y:=by simp[Array.getD_eq_getD_getElem?,g1]
      obtain⟨e,_,rfl⟩:=real_ptr g2;simp only[Instr.loadAt,Instr.sureAddr,Sem.run_bind,Sem.run_pure,Result.andThen_ok]at hl;simp only[List.mapM_cons,Sem.run_bind,resSem,h3,asAddr,Sem.run_pure,Result.andThen_ok,hl,hrun]
     ·cases h1
theorem results_ok{fn:Func}{a:Act}(hA:TOk m f.sz f.T.get a.tmps)(hr:Rel B W0 m st w){vs:List V}(h:resL P st f fn.results.toList=some vs):
  ∃x,real m (packV vs)=some x∧(results fn a.tmps).run P w=.ok x w:=by
 obtain⟨xs,hxs,hrun⟩:=resL_ok hA hr _ _ h;have hlen:=realL_len hxs;refine⟨if h:xs.toArray.size=1 then xs.toArray[0]else .tuple xs.toArray,?_,?_⟩
 ·match vs,xs,hxs,hlen with
  |[],[],_,_=>rfl
  |[v],[x],h,_=>
   obtain⟨a,b,h1,h2,h3⟩:=realL_cons h;cases h3;simpa[packV]using h1
  |v::v'::r,x::x'::s,h,_=>
   have:¬(x::x'::s).toArray.size=1:=by simp
   rw[dif_neg this];simp only[packV,real,h]
 ·rw[results_eq,Sem.run_bind,Array.mapM_eq_mapM_toList,Sem.run_map,hrun];rfl
theorem leaves_ok{fn:Func}{Q:V→St→Prop}{m0:List MB}(he0:Ext m0 m):∀(defs:List Nat) (ds:List Deferred) (st:St) (w:World) (tmps:Array Value),DOk m defs ds→TOk m f.sz f.T.get tmps→Rel B W0 m st w→
  ∀st2 vs,killDefs defs st=some st2→resL P st2 f fn.results.toList=some vs→Q (packV vs) st2→LeavesInM Fence.wide 0 P fn tmps (Ret B W0 m0 Q) ds .returning w
 |[],[],st,w,tmps,_,hT,hr,st2,vs,hk,hres,hq=>by
  simp only[killDefs,Option.some.injEq]at hk;subst hk;obtain⟨x,hx,hrun⟩:=results_ok (a:={tmps:=tmps,defers:=[]}) hT hr hres;exact⟨x,hrun,packV vs,x,m,st,rfl,he0,hx,hr,hq⟩
 |d::r,x::s,st,w,tmps,⟨⟨e,h1,h2⟩,h3⟩,hT,hr,st2,vs,hk,hres,hq=>by
  simp only[killDefs]at hk;split at hk
  ·rename_i hd;obtain⟨hB,hheap⟩:=hr.blk d _ e hd h1;have hr2:=hr.update (b':=.dead) hd rfl h1 (only_putObj w e.blk (.deferred none)) trivial;refine⟨by simp,.inl ⟨e.blk,_,by rw[h2],run_takeDeferred hheap,?_⟩⟩;exact leaves_ok he0 r s (st.set d .dead) _ tmps h3 hT hr2 st2 vs hk hres hq
  ·cases hk
 |[],_::_,_,_,_,h,_,_,_,_,_,_,_=>h.elim
 |_::_,[],_,_,_,h,_,_,_,_,_,_,_=>h.elim
def Leave(P:Program)(fn:Func)(Q:V→St→Prop)(e:Exit)(f:Fr)(st:St):Prop:=(e=.normal∨e=.ret)∧∃v s,leaveV P fn f st=some (v,s)∧Q v s
theorem fn_sat{g:FuncId}{fn:Func}{c:Code}{args:List V}{Q:V→St→Prop}(hf:P.funcs[g]?=some fn)(hb:fn.body=some c)(hl:args.length≤fn.ntmps)
  (h:CodeSat P none c ⟨fn.ntmps,initT 0 .lf args,[]⟩ st (Leave P fn Q)):FnSat P g args st Q:=by
 intro B W0 m w rargs hargs hr;have hlen:=realL_len hargs;refine callsIn_wide.1 (callsIn_of_wp_marks (n:=0) (F:=Fence.wide) hf hb trivial ?_ rfl);have hA:AOk m ⟨fn.ntmps,initT 0 .lf args,[]⟩ {tmps:=rargs.toArray++Array.replicate (fn.ntmps-rargs.toArray.size) undef,defers:=[]}:=by
  refine⟨⟨by simp;omega,fun t v hv=>?_⟩,trivial⟩;rcases initT_get hv with⟨j,rfl,hj⟩|hv
  ·obtain⟨y,g1,g2⟩:=realL_get hargs hj;refine⟨y,?_,g1⟩;simp only[Nat.zero_add];rw[Array.getElem?_append_left (by simpa using(List.getElem?_eq_some_iff.1 g2).1)];simpa using g2
  ·simp[Tr.get,Tr.getF]at hv
 refine wpIn_mono (h B W0 m _ w _ (.inl ⟨rfl,rfl⟩) hA hr) ?_;rintro e a' w' ⟨m',f',st',e1,e2,e3,he,v,s,hlv,hq⟩;have fin:LeavesInM Fence.wide 0 P fn a'.tmps (Ret B W0 m Q) a'.defers .returning w':=by
  unfold leaveV at hlv;split at hlv
  ·rename_i st2 hk;split at hlv
   ·rename_i l hres;cases hlv;exact leaves_ok e1 f'.defs a'.defers st' w' a'.tmps e2.defers e2.tmps e3 _ l hk hres hq
   ·cases hlv
  ·cases hlv
 rcases he with rfl|rfl<;>exact fin
end
def afterV(pend:Option Code)(f:Fr)(st:St):Option (Exit×Fr×St):=
 match pend with
 |none=>some (.normal,f,st)
 |some .ret=>some (.ret,f,st)
 |some (.exit id)=>some (.exit id,f,st)
 |_=>none
def evalRange(P:Program)(call:Call)(ro:Option Nat)(g:Operand)(ps:Array Tmp)(assign body:Code)(f:Fr)(st:St):Option (Exit×Fr×St):=
 match ev f.T.get g with
 |some (.func (.func h) fs cs)=>bif plainFn P h then
   match ro with
   |none=>match call (.fn h) (fs++[.yield (st.length+1)]++cs) (st++[.defd,.loop .ready none f.sz f.T ps assign body st.length])with
    |some (_,s2)=>match s2[st.length+1]? with
     |some (.loop .busy _ _ _ _ _ _ _)=>none
     |some (.loop _ pend _ _ _ _ _ _)=>afterV pend ⟨f.sz,f.T,st.length::f.defs⟩ (s2.set (st.length+1) .dead)
     |_=>none
    |none=>none
   |some l0=>match st[l0]? with
    |some (.loop _ _ _ _ _ _ _ dn0)=>match call (.fn h) (fs++[.yield st.length]++cs) (st++[.loop .ready none f.sz f.T ps assign body dn0])with
     |some (_,s2)=>match s2[st.length]? with
      |some (.loop .busy _ _ _ _ _ _ _)=>none
      |some (.loop _ pend _ _ _ _ _ _)=>afterV pend f (s2.set st.length .dead)
      |_=>none
     |none=>none
    |_=>none
  else none
 |_=>none
def evalCodeJ(P:Program)(call:Call)(jmp:Code→Fr→St→Option (Exit×Fr×St))(lim:Nat)(ro:Option Nat):Code→Fr→St→Option (Exit×Fr×St)
 |.skip,f,st=>some (.normal,f,st)
 |.label _,f,st=>some (.normal,f,st)
 |.ret,f,st=>some (.ret,f,st)
 |.exit id,f,st=>some (.exit id,f,st)
 |.region _ ops false,f,st=>match evalOps P call ops ops.toList f st with
  |some (f',st')=>some (.normal,f',st')
  |none=>none
 |.region _ ops true,f,st=>match(bif Region.lexB .any ops&&noDefer ops then evalStill P call ops st ops.toList f else none)with
  |some f'=>some (.normal,f',st)
  |none=>match evalDrawMap P call ops f st with
   |some (f',st')=>some (.normal,f',st')
   |none=>match evalDraw P call ops f st with
    |some (f',st')=>some (.normal,f',st')
    |none=>match evalDrawE P call ops f st with
     |some (f',st')=>some (.normal,f',st')
     |none=>match evalDrawF P call ops f st with
      |some (f',st')=>some (.normal,f',st')
      |none=>none
 |.seq a b,f,st=>match evalCodeJ P call jmp lim ro a f st with
  |some (.normal,f',st')=>evalCodeJ P call jmp lim ro b f' st'
  |r=>r
 |.cond c x y,f,st=>match ev f.T.get c with
  |some (.bool true)=>evalCodeJ P call jmp lim ro x f st
  |some (.bool false)=>evalCodeJ P call jmp lim ro y f st
  |_=>none
 |.block id c,f,st=>match evalCodeJ P call jmp lim ro c f st with
  |some (.exit id',f',st')=>bif Nat.beq id' id then some (.normal,f',st')else some (.exit id',f',st')
  |r=>r
 |.loop c,f,st=>iter (fun f st=>evalCodeJ P call jmp lim ro c f st) lim f st
 |.rangeFunc g ps as bd,f,st=>evalRange P call ro g ps as bd f st
 |.goto l,f,st=>some (.goto l,f,st)
 |.scope c,f,st=>match evalCodeJ P call jmp lim ro c f st with
  |some (.goto l,f',st')=>match findLabel c l with
   |some rest=>match jmp rest f' st' with
    |some (.goto _,_,_)=>none
    |r=>r
   |none=>none
  |r=>r
 |_,_,_=>none
def noJmp:Code→Fr→St→Option (Exit×Fr×St):=fun _ _ _=>none
def evalCode(P:Program)(call:Call)(lim:Nat)(ro:Option Nat):Code→Fr→St→Option (Exit×Fr×St):=evalCodeJ P call (evalCodeJ P call noJmp lim ro) lim ro
def evalFn(P:Program)(call:Call)(lim:Nat)(g:FuncId)(args:List V)(st:St):Option (V×St):=
 match P.funcs[g]? with
 |some fn=>match fn.body with
  |some c=>bif Nat.ble args.length fn.ntmps then
    match evalCode P call lim none c ⟨fn.ntmps,initT 0 .lf args,[]⟩ st with
    |some (.normal,f,st1)=>leaveV P fn f st1
    |some (.ret,f,st1)=>leaveV P fn f st1
    |_=>none
   else none
  |none=>none
 |none=>none
def evalYld(P:Program)(call:Call)(lim:Nat)(l:Nat)(args:List V)(st:St):Option (V×St):=
 match st[l]? with
 |some (.loop .ready none sz T ps as bd dn)=>bif Nat.beq args.length ps.size&&ps.toList.all (fun t=>Nat.blt t sz)then
   match evalCode P call lim (some l) as ⟨sz,putAll T ps.toList args,[]⟩ st with
   |some (.normal,f1,s1)=>match s1[l]? with
    |some (.loop .ready none sz' T' ps' as' bd' dn')=>
     match evalCode P call lim (some l) bd f1 (s1.set l (.loop .busy none sz' T' ps' as' bd' dn'))with
     |some (e,f2,s2)=>match s2[l]?,jumpOf e with
      |some (.loop _ _ sz2 T2 ps2 as2 bd2 dn2),some j=>some (.bool j.isNone,s2.set l (.loop (if j.isNone then .ready else .done) j sz2 T2 ps2 as2 bd2 dn2))
      |_,_=>none
     |none=>none
    |_=>none
   |_=>none
  else none
 |_=>none
def E(P:Program)(ct:Call)(lim:Nat):Nat→Call
 |0=>fun _ _ _=>none
 |n+1=>fun tgt args st=>forced lim args st fun args st=>match ct tgt args st with
  |some r=>some r
  |none=>match tgt with
   |.fn g=>evalFn P (E P ct lim n) lim g args st
   |.yld l=>evalYld P (E P ct lim n) lim l args st
section
variable {P:Program} {call:Call} {ro:Option Nat} {f:Fr} {st:St} {lim:Nat}
abbrev Is3(r:Exit×Fr×St):Exit→Fr→St→Prop:=fun a b d=>(a,b,d)=r
theorem afterV_ok{pend:Option Code}{r:Exit×Fr×St}(h:afterV pend f st=some r):afterLoop (Is3 r) f st pend:=by
 unfold afterV at h;unfold afterLoop;split at h<;>first|(cases h;rfl)|cases h
theorem evalRange_ok(hc:CallOk P call){g:Operand}{ps:Array Tmp}{as bd:Code}{r:Exit×Fr×St}(h:evalRange P call ro g ps as bd f st=some r):CodeSat P ro (.rangeFunc g ps as bd) f st (Is3 r):=by
 unfold evalRange at h;split at h
 ·rename_i h0 fs cs hg;cases hp:plainFn P h0 with
  |false=>rw[hp]at h;cases h
  |true=>
   rw[hp,cond_true]at h;split at h
   ·split at h
    ·rename_i v s2 hcall;split at h
     ·cases h
     ·rename_i stt pend sz T ps' as' bd' dn' hs hl;refine sat_range hg hp ((hc (.fn h0) _ _ _ hcall).mono ?_);rintro v' s' hq;cases hq;exact⟨stt,pend,sz,T,ps',as',bd',dn',hl,hs,afterV_ok h⟩
     ·cases h
    ·cases h
   ·rename_i l0;split at h
    ·rename_i st0 pe0 sz0 T0 ps0 as0 bd0 dn0 hl0;split at h
     ·rename_i v s2 hcall;split at h
      ·cases h
      ·rename_i stt pend sz T ps' as' bd' dn' hs hl;refine sat_range_in hg hp hl0 ((hc (.fn h0) _ _ _ hcall).mono ?_);rintro v' s' hq;cases hq;exact⟨stt,pend,sz,T,ps',as',bd',dn',hl,hs,afterV_ok h⟩
      ·cases h
     ·cases h
    ·cases h
 ·cases h
def JmpOk(P:Program)(ro:Option Nat)(jmp:Code→Fr→St→Option (Exit×Fr×St)):Prop:=∀(c:Code) (f:Fr) (st:St) (r:Exit×Fr×St),jmp c f st=some r→CodeSat P ro c f st (fun e f' s'=>(e,f',s')=r)
theorem evalCodeJ_ok(hm:P.follows .mixedOrders=true)(hc:CallOk P call)(ro:Option Nat){jmp:Code→Fr→St→Option (Exit×Fr×St)}(hj:JmpOk P ro jmp):∀(c:Code) (f:Fr) (st:St) (r:Exit×Fr×St),evalCodeJ P call jmp lim ro c f st=some r→CodeSat P ro c f st (Is3 r)
 |.skip,f,st,r,h=>by simp only[evalCodeJ,Option.some.injEq]at h;exact sat_skip h
 |.label _,f,st,r,h=>by simp only[evalCodeJ,Option.some.injEq]at h;exact sat_label h
 |.ret,f,st,r,h=>by simp only[evalCodeJ,Option.some.injEq]at h;exact sat_ret h
 |.exit id,f,st,r,h=>by simp only[evalCodeJ,Option.some.injEq]at h;exact sat_exit h
 |.region id ops false,f,st,r,h=>by
  simp only[evalCodeJ]at h;split at h
  ·rename_i f' st' he;cases h;exact sat_region hc he rfl
  ·cases h
 |.region id ops true,f,st,r,h=>by
  simp only[evalCodeJ]at h;split at h
  ·rename_i f' he;cases h;cases hb:(Region.lexB .any ops&&noDefer ops)with
   |false=>rw[hb]at he;cases he
   |true=>
    rw[hb,cond_true]at he;simp only[Bool.and_eq_true]at hb;exact sat_draw hm hc hb.1 hb.2 he rfl
  ·split at h
   ·rename_i f' st' he;cases h;exact sat_draw_map hm hc he rfl
   split at h
   ·rename_i f' st' he;cases h;exact sat_draw_mem hm hc he rfl
   ·split at h
    ·rename_i f' st' he;cases h;exact sat_draw_eff hm hc he rfl
    ·split at h
     ·rename_i f' st' he;cases h;exact sat_draw_fp hm hc he rfl
     ·cases h
 |.seq a b,f,st,r,h=>by
  simp only[evalCodeJ]at h;refine sat_seq ?_;split at h
  ·rename_i f' st' ha;refine(evalCodeJ_ok hm hc ro hj a f st _ ha).mono ?_;rintro e f2 s2 hq;cases hq;exact evalCodeJ_ok hm hc ro hj b f' st' r h
  ·rename_i hne;cases ha:evalCodeJ P call jmp lim ro a f st with
   |none=>rw[ha]at h;cases h
   |some q=>
    rw[ha]at h;cases h;refine(evalCodeJ_ok hm hc ro hj a f st _ ha).mono ?_;rintro e f2 s2 hq;cases e with
    |normal=>exact absurd (ha.trans (congrArg some hq.symm)) (hne _ _)
    |_=>exact hq
 |.cond c x y,f,st,r,h=>by
  simp only[evalCodeJ]at h;split at h
  ·rename_i hcnd;exact sat_cond hcnd (evalCodeJ_ok hm hc ro hj x f st r h)
  ·rename_i hcnd;exact sat_cond hcnd (evalCodeJ_ok hm hc ro hj y f st r h)
  ·cases h
 |.block id c,f,st,r,h=>by
  simp only[evalCodeJ]at h;refine sat_block ?_;split at h
  ·rename_i id' f' st' ha;refine(evalCodeJ_ok hm hc ro hj c f st _ ha).mono ?_;rintro e f2 s2 hq;cases hq;simp only[Blocked];cases hb:Nat.beq id' id with
   |true=>rw[hb,cond_true]at h;rw[if_pos (Nat.eq_of_beq_eq_true hb)];exact Option.some.inj h
   |false=>
    rw[hb,cond_false]at h;rw[if_neg (fun q=>by rw[q,Nat.beq_refl]at hb;cases hb)];exact Option.some.inj h
  ·rename_i hne;cases ha:evalCodeJ P call jmp lim ro c f st with
   |none=>rw[ha]at h;cases h
   |some q=>
    rw[ha]at h;cases h;refine(evalCodeJ_ok hm hc ro hj c f st _ ha).mono ?_;rintro e f2 s2 hq;cases e with
    |exit id'=>exact absurd (ha.trans (congrArg some hq.symm)) (hne _ _ _)
    |_=>exact hq
 |.loop c,f,st,r,h=>by
  simp only[evalCodeJ]at h;obtain⟨e,f',st'⟩:=r;exact sat_iter (fun f st e f' st' hb=>evalCodeJ_ok hm hc ro hj c f st _ hb) h
 |.rangeFunc g ps as bd,f,st,r,h=>by
  simp only[evalCodeJ]at h;exact evalRange_ok hc h
 |.scope c,f,st,r,h=>by
  simp only[evalCodeJ]at h;refine sat_scope ?_;split at h
  ·rename_i l f' st' ha;refine(evalCodeJ_ok hm hc ro hj c f st _ ha).mono ?_;rintro e f2 s2 hq;cases hq;split at h
   ·rename_i rest hf;refine⟨rest,hf,?_⟩;split at h
    ·cases h
    ·rename_i hne;refine(hj rest f' st' r h).mono ?_;rintro e3 f3 s3 hq3;cases e3 with
     |goto l3=>exact absurd (h.trans (congrArg some hq3.symm)) (hne _ _ _)
     |_=>exact hq3
   ·cases h
  ·rename_i hne;cases ha:evalCodeJ P call jmp lim ro c f st with
   |none=>rw[ha]at h;cases h
   |some q=>
    rw[ha]at h;cases h;refine(evalCodeJ_ok hm hc ro hj c f st _ ha).mono ?_;rintro e f2 s2 hq;cases e with
    |goto l=>exact absurd (ha.trans (congrArg some hq.symm)) (hne _ _ _)
    |_=>exact hq
 |.goto _,f,st,r,h=>by simp only[evalCodeJ,Option.some.injEq]at h;exact sat_goto h
 |.refuse _,f,st,r,h=>by simp[evalCodeJ]at h
theorem evalCode_ok(hm:P.follows .mixedOrders=true)(hc:CallOk P call)(ro:Option Nat)(c:Code)(f:Fr)(st:St)(r:Exit×Fr×St)(h:evalCode P call lim ro c f st=some r):CodeSat P ro c f st (fun e f' s'=>(e,f',s')=r):=
 evalCodeJ_ok hm hc ro (fun c f st r h=>evalCodeJ_ok hm hc ro (fun c f st r h=>by cases h) c f st r h) c f st r h
theorem evalFn_ok(hm:P.follows .mixedOrders=true)(hc:CallOk P call){g:FuncId}{args:List V}{r:V×St}(h:evalFn P call lim g args st=some r):FnSat P g args st (Is r):=by
 unfold evalFn at h;split at h
 ·rename_i fn hf;split at h
  ·rename_i c hb;cases hl:Nat.ble args.length fn.ntmps with
   |false=>rw[hl]at h;cases h
   |true=>
    rw[hl,cond_true]at h;refine fn_sat hf hb (Nat.le_of_ble_eq_true hl) ?_;split at h
    ·rename_i f1 st1 he;refine(evalCode_ok hm hc none c _ st _ he).mono ?_;rintro e f2 s2 hq;cases hq;exact⟨.inl rfl,r.1,r.2,h,rfl⟩
    ·rename_i f1 st1 he;refine(evalCode_ok hm hc none c _ st _ he).mono ?_;rintro e f2 s2 hq;cases hq;exact⟨.inr rfl,r.1,r.2,h,rfl⟩
    ·cases h
  ·cases h
 ·cases h
theorem evalYld_ok(hm:P.follows .mixedOrders=true)(hc:CallOk P call){l:Nat}{args:List V}{r:V×St}(h:evalYld P call lim l args st=some r):YldSat P l args st (Is r):=by
 unfold evalYld at h;split at h
 ·rename_i sz T ps as bd dn hl;cases hb:(Nat.beq args.length ps.size&&ps.toList.all (fun t=>Nat.blt t sz))with
  |false=>rw[hb]at h;cases h
  |true=>
   rw[hb,cond_true]at h;simp only[Bool.and_eq_true]at hb;split at h
   ·rename_i f1 s1 ha;split at h
    ·rename_i sz' T' ps' as' bd' dn' hl1;split at h
     ·rename_i e f2 s2 hbody;split at h
      ·rename_i stt pend sz2 T2 ps2 as2 bd2 dn2 j hl2 hj;cases h;refine sat_round hl (Nat.eq_of_beq_eq_true hb.1) hb.2 ((evalCode_ok hm hc (some l) as _ st _ ha).mono ?_);rintro e1 g1 q1 hq;cases hq;refine⟨sz',T',ps',as',bd',dn',hl1,(evalCode_ok hm hc (some l) bd _ _ _ hbody).mono ?_⟩;rintro e3 g3 q3 hq;cases hq;exact⟨j,stt,pend,sz2,T2,ps2,as2,bd2,dn2,hj,hl2,rfl⟩
      ·cases h
     ·cases h
    ·cases h
   ·cases h
 ·cases h
theorem E_ok(hm:P.follows .mixedOrders=true){ct:Call}(hct:CallOk P ct)(lim:Nat):∀n,CallOk P (E P ct lim n)
 |0=>fun tgt args st r h=>by cases h
 |n+1=>fun tgt args st r h=>by
  simp only[E,forced_eq]at h;split at h
  ·rename_i q hq;cases h;exact hct tgt args st _ hq
  ·cases tgt with
   |fn g=>exact evalFn_ok hm (E_ok hm hct lim n) h
   |yld l=>exact evalYld_ok hm (E_ok hm hct lim n) h
def noTable:Call:=fun _ _ _=>none
theorem noTable_ok:CallOk P noTable:=fun _ _ _ _ h=>by cases h
theorem law_of_sat{g:FuncId}{args:List V}{rargs:List Value}(h:FnSat P g args [] (fun v _=>v=.bool true))(ha:realL [] args=some rargs)(w:World)(hg:GOk w.heap.size w:=by exact GOk.none w (fun _=>rfl)):
  Calls P g rargs.toArray w (fun e w'=>e=.returned (.bool true)∧Below w.heap.size w w'):=by
 refine(h w.heap.size w [] w rargs ha (Rel.empty w hg)).mono ?_;rintro e w' ⟨v',y,m',st',rfl,_,hy,hr,rfl⟩;cases real_bool hy;exact⟨rfl,hr.below⟩
end
end Go.Vm
namespace Go.Vm
variable [G:Glob] [Φ:Frz]
set_option linter.unusedSectionVars false
set_option linter.unusedVariables false
open Go.RowKit
class LstFlag where
 z:Bool
 ix:Bool
 /-- What is left of a division gets a name of its own. -/
 rm:Bool
instance(priority:=low) lstFlag0:LstFlag:=⟨false,false,false⟩
variable [Z:LstFlag]
def Sure{α:Type}(x:Option α)(k:α→Prop):Prop:=∃a,x=some a∧k a
def must(b:Bool)(A:Prop):Prop:=bif b then A else False
theorem must_spec{b:Bool}{A:Prop}(h:must b A):b=true∧A:=by
 cases b with
 |true=>exact⟨rfl,h⟩
 |false=>exact h.elim
theorem must_intro{b:Bool}{A:Prop}(hb:b=true)(h:A):must b A:=by subst hb;exact h
theorem bif_intro{b:Bool}{A B:Prop}(h1:b=true→A)(h2:b=false→B):(bif b then A else B):=by
 cases b with
 |true=>exact h1 rfl
 |false=>exact h2 rfl
theorem bif_elim{b:Bool}{A B:Prop}(h:bif b then A else B):(b=true∧A)∨(b=false∧B):=by
 cases b with
 |true=>exact .inl ⟨rfl,h⟩
 |false=>exact .inr ⟨rfl,h⟩
theorem Sure.mono{α:Type}{x:Option α}{k k':α→Prop}(h:Sure x k)(hk:∀a,k a→k' a):Sure x k':=let ⟨a,h1,h2⟩:=h;⟨a,h1,hk a h2⟩
def optK{α:Type}(x:Option α)(k:α→Prop):Prop:=match x with
 |some a=>k a
 |none=>False
theorem optK_ok{α:Type}{x:Option α}{k:α→Prop}(h:optK x k):Sure x k:=by
 cases x with
 |some a=>exact⟨a,rfl,h⟩
 |none=>exact h.elim
def arithK(op:BinOp)(k:IntKind)(a b:Int)(K:V→Prop):Prop:=
 match op with
 |.quo=>must (!(b==0)) (K (.int k (k.wrap (a.tdiv b))))
 |.rem=>must (!(b==0)) (bif Z.rm then(∀c:Int,c=a.tmod b→K (.int k c))else K (.int k (a.tmod b)))
 |op=>optK (arithV op k a b) K
theorem arithK_ok{op:BinOp}{k:IntKind}{a b:Int}{K:V→Prop}(h:arithK op k a b K):Sure (arithV op k a b) K:=by
 unfold arithK at h;split at h
 ·obtain⟨h1,h2⟩:=must_spec h;have hb:¬b=0:=by simpa using h1
  exact⟨_,by simp[arithV,hb],h2⟩
 ·obtain⟨h1,h2⟩:=must_spec h;have hb:¬b=0:=by simpa using h1
  refine⟨.int k (a.tmod b),by simp[arithV,hb],?_⟩;rcases bif_elim h2 with⟨_,h2⟩|⟨_,h2⟩
  ·exact h2 _ rfl
  ·exact h2
 ·exact optK_ok h
def shiftK(op:BinOp)(k:IntKind)(a b:Int)(K:V→Prop):Prop:=
 match op with
 |.shl=>must (decide (0≤b)) (K (.int k (k.wrap (a*2^(min b.toNat k.bits)))))
 |.shr=>must (decide (0≤b)) (K (.int k (a.fdiv (2^(min b.toNat k.bits)))))
 |_=>False
theorem shiftK_ok{op:BinOp}{k:IntKind}{a b:Int}{K:V→Prop}(h:shiftK op k a b K):Sure (shiftV op k a b) K:=by
 unfold shiftK at h;split at h
 ·obtain⟨h1,h2⟩:=must_spec h;have hb:¬b<0:=by have:=of_decide_eq_true h1;omega
  exact⟨_,by simp[shiftV,hb],h2⟩
 ·obtain⟨h1,h2⟩:=must_spec h;have hb:¬b<0:=by have:=of_decide_eq_true h1;omega
  exact⟨_,by simp[shiftV,hb],h2⟩
 ·exact h.elim
def strK(op:BinOp)(a b:List UInt8)(K:V→Prop):Prop:=
 match op with
 |.add=>must (Nat.ble (a.length+b.length) 9223372036854775807) (K (.str (a++b)))
 |op=>optK (strV op a b) K
theorem strK_ok{op:BinOp}{a b:List UInt8}{K:V→Prop}(h:strK op a b K):Sure (strV op a b) K:=by
 unfold strK at h;split at h
 ·obtain⟨h1,h2⟩:=must_spec h;have:=Nat.le_of_ble_eq_true h1;exact⟨_,by simp only[strV];rw[if_pos this],h2⟩
 ·exact optK_ok h
def eqFieldsK(P:Program)(f:TypeId→V→V→(Bool→Prop)→Prop)(xs ys:List V):List Field→(Bool→Prop)→Prop
 |[],K=>K true
 |g::r,K=>if g.name== "_" then eqFieldsK P f xs ys r K else
  match partV P g.type xs g.offset,partV P g.type ys g.offset with
  |some a,some b=>f g.type a b (fun t=>bif t then eqFieldsK P f xs ys r K else K false)
  |_,_=>False
def eqArrK(P:Program)(f:TypeId→V→V→(Bool→Prop)→Prop)(e:TypeId)(s:Nat)(xs ys:List V):Nat→Nat→(Bool→Prop)→Prop
 |_,0,K=>K true
 |i,k+1,K=>match partV P e xs (i*s),partV P e ys (i*s)with
  |some a,some b=>f e a b (fun t=>bif t then eqArrK P f e s xs ys (i+1) k K else K false)
  |_,_=>False
def eqK(P:Program):Nat→TypeId→V→V→(Bool→Prop)→Prop
 |0,_,_,_,_=>False
 |d+1,t,x,y,K=>match P.underlying t,x,y with
  |some (.struct fs),.agg xs,.agg ys=>if P.stoodInHeld t then False else eqFieldsK P (eqK P d) xs ys fs.toList K
  |some (.array n e),.agg xs,.agg ys=>match sizeV P e with
   |some s=>eqArrK P (eqK P d) e s xs ys 0 n K
   |none=>False
  |_,_,_=>optK (eqV P (d+1) t x y) K
theorem eqFieldsK_ok{P:Program}{f:TypeId→V→V→(Bool→Prop)→Prop}{g:TypeId→V→V→Option Bool}(hf:∀t x y K,f t x y K→Sure (g t x y) K){xs ys:List V}:∀(l:List Field) (K:Bool→Prop),eqFieldsK P f xs ys l K→Sure (eqFieldsV P g xs ys l) K
 |[],K,h=>⟨true,rfl,h⟩
 |q::r,K,h=>by
  simp only[eqFieldsK]at h;simp only[eqFieldsV];by_cases hn:(q.name== "_")=true
  ·rw[if_pos hn]at h ⊢;exact eqFieldsK_ok hf r K h
  ·rw[if_neg hn]at h ⊢;split at h
   ·rename_i a b ha hb;obtain⟨t,h1,h2⟩:=hf _ _ _ _ h;simp only[ha,hb,h1];rcases bif_elim h2 with⟨rfl,h2⟩|⟨rfl,h2⟩
    ·exact eqFieldsK_ok hf r K h2
    ·exact⟨false,rfl,h2⟩
   ·exact h.elim
theorem eqArrK_ok{P:Program}{f:TypeId→V→V→(Bool→Prop)→Prop}{g:TypeId→V→V→Option Bool}(hf:∀t x y K,f t x y K→Sure (g t x y) K){e:TypeId}{s:Nat}{xs ys:List V}:∀(k i:Nat) (K:Bool→Prop),eqArrK P f e s xs ys i k K→Sure (eqArrV P g e s xs ys i k) K
 |0,i,K,h=>⟨true,rfl,h⟩
 |k+1,i,K,h=>by
  simp only[eqArrK]at h;simp only[eqArrV];split at h
  ·rename_i a b ha hb;obtain⟨t,h1,h2⟩:=hf _ _ _ _ h;simp only[ha,hb,h1];rcases bif_elim h2 with⟨rfl,h2⟩|⟨rfl,h2⟩
   ·exact eqArrK_ok hf k (i+1) K h2
   ·exact⟨false,rfl,h2⟩
  ·exact h.elim
theorem eqK_ok{P:Program}:∀(d:Nat) (t:TypeId) (x y:V) (K:Bool→Prop),eqK P d t x y K→Sure (eqV P d t x y) K
 |0,_,_,_,_,h=>h.elim
 |d+1,t,x,y,K,h=>by
  simp only[eqK]at h;split at h
  ·rename_i fs xs ys hu;by_cases hs:P.stoodInHeld t=true
   ·rw[if_pos hs]at h;exact h.elim
   ·rw[if_neg hs]at h;obtain⟨b,h1,h2⟩:=eqFieldsK_ok (fun t x y K h=>eqK_ok d t x y K h) _ K h;exact⟨b,by simp only[eqV,hu];rw[if_neg hs];exact h1,h2⟩
  ·rename_i n e xs ys hu;split at h
   ·rename_i s hs;obtain⟨b,h1,h2⟩:=eqArrK_ok (fun t x y K h=>eqK_ok d t x y K h) _ _ K h;exact⟨b,by simp only[eqV,hu,hs];exact h1,h2⟩
   ·exact h.elim
  ·exact optK_ok h
def binK(P:Program)(op:BinOp)(t:TypeId)(u v:V)(K:V→Prop):Prop:=
 match u,v with
 |.int k a,.int k' b=>match op with
  |.shl=>shiftK .shl k a b K
  |.shr=>shiftK .shr k a b K
  |op=>if k=k' then arithK op k a b K else False
 |.str a,.str b=>strK op a b K
 |.agg xs,.agg ys=>if P.eqGuardType P.depth t then False else
  match op with
  |.eql=>eqK P 9 t (.agg xs) (.agg ys) (fun b=>K (.bool b))
  |.neq=>eqK P 9 t (.agg xs) (.agg ys) (fun b=>K (.bool (!b)))
  |_=>False
 |u,v=>optK (binV P op t u v) K
theorem binK_ok{P:Program}{op:BinOp}{t:TypeId}{u v:V}{K:V→Prop}(h:binK P op t u v K):Sure (binV P op t u v) K:=by
 unfold binK at h;split at h
 ·rename_i k a k' b;split at h
  ·exact shiftK_ok h
  ·exact shiftK_ok h
  ·rename_i h1 h2;split at h
   ·rename_i hk;obtain⟨r,h3,h4⟩:=arithK_ok h;refine⟨r,?_,h4⟩;cases op<;>first|(exact absurd rfl h1)|(exact absurd rfl h2)|(simp only[binV];rw[if_pos hk];exact h3)
   ·exact h.elim
 ·exact strK_ok h
 ·rename_i xs ys;by_cases hg:P.eqGuardType P.depth t=true
  ·rw[if_pos hg]at h;exact h.elim
  ·rw[if_neg hg]at h;split at h
   ·obtain⟨b,h1,h2⟩:=eqK_ok _ _ _ _ _ h;exact⟨.bool b,by simp only[binV];rw[if_neg hg,h1],h2⟩
   ·obtain⟨b,h1,h2⟩:=eqK_ok _ _ _ _ _ h;exact⟨.bool (!b),by simp only[binV];rw[if_neg hg,h1],h2⟩
   ·exact h.elim
 ·exact optK_ok h
def indexK(P:Program)(t:TypeId)(v i:V)(K:V→Prop):Prop:=
 match P.underlying t,v,i with
 |some .string,.str l,.int _ k=>must (decide (0≤k)&&Nat.blt k.toNat l.length) (K (.int .u8 (l.getD k.toNat 0).toNat))
 |some (.array n e),.agg cs,.int _ k=>match sizeV P e,isAggV P e with
  |some 1,some false=>must (decide (0≤k)&&decide (k<n)&&Nat.blt k.toNat cs.length) (K (cs.getD k.toNat (.bool false)))
  |_,_=>optK (indexV P t v i) K
 |_,_,_=>optK (indexV P t v i) K
theorem indexK_ok{P:Program}{t:TypeId}{v i:V}{K:V→Prop}(h:indexK P t v i K):Sure (indexV P t v i) K:=by
 unfold indexK at h;split at h
 ·rename_i l kd k hu;obtain⟨h1,h2⟩:=must_spec h;simp only[Bool.and_eq_true,decide_eq_true_eq]at h1;have hlt:=blt_true h1.2;refine⟨_,?_,h2⟩;simp only[indexV,hu];rw[if_pos h1.1,List.getElem?_eq_getElem hlt,List.getD_eq_getElem?_getD,List.getElem?_eq_getElem hlt];rfl
 ·rename_i n e cs kd k hu;split at h
  ·rename_i hs ha;obtain⟨h1,h2⟩:=must_spec h;simp only[Bool.and_eq_true,decide_eq_true_eq]at h1;have hlt:=blt_true h1.2;refine⟨_,?_,h2⟩;simp only[indexV,hu,hs];rw[if_pos h1.1,Nat.mul_one];simp only[partV,ha];rw[List.getElem?_eq_getElem hlt,List.getD_eq_getElem?_getD,List.getElem?_eq_getElem hlt];rfl
  ·exact optK_ok h
 ·exact optK_ok h
def splitIx:Nat→Nat→Int→(Nat→Prop)→Prop
 |0,_,_,_=>False
 |n+1,j,k,K=>bif k==(j:Int)then K j else splitIx n (j+1) k K
theorem splitIx_ok:∀(n j:Nat) (k:Int) (K:Nat→Prop),splitIx n j k K→K k.toNat
 |0,_,_,_,h=>h.elim
 |n+1,j,k,K,h=>by
  simp only[splitIx]at h;rcases bif_elim h with⟨h1,h⟩|⟨_,h⟩
  ·have h1:k=(j:Int):=by simpa using h1
   rw[h1,Int.toNat_natCast];exact h
  ·exact splitIx_ok n (j+1) k K h
def indexAddrK(sx:Bool)(P:Program)(t:TypeId)(v i:V)(K:V→Prop):Prop:=
 match P.underlying t,v,i with
 |some (.slice e),.slice b off len ex c z,.int _ k=>match sizeV P e with
  |some s=>must (decide (0≤k)&&decide (k<len)) (bif sx&&Nat.ble len 4 then splitIx len 0 k (fun q=>K (.ptr b (off+q*s)))else K (.ptr b (off+k.toNat*s)))
  |none=>False
 |some (.array n e),.ptr b off,.int _ k=>match sizeV P e with
  |some s=>must (decide (0≤k)&&decide (k<n)) (K (.ptr b (off+k.toNat*s)))
  |none=>False
 |some (.array n e),.gp b off,.int _ k=>match sizeV P e with
  |some s=>must (decide (0≤k)&&decide (k<n)) (bif Nat.ble n 4 then splitIx n 0 k (fun q=>K (.gp b (off+q*s)))else K (.gp b (off+k.toNat*s)))
  |none=>False
 |some (.slice e),.lst x n cs,.int _ k=>match sizeV P e with
  |some s=>must (decide (0≤k)&&decide (k<n)) (K (.lptr x n cs (k.toNat*s)))
  |none=>False
 |some (.array n e),.lptr x j cs off,.int _ k=>match sizeV P e with
  |some s=>must (decide (0≤k)&&decide (k<n)) (K (.lptr x j cs (off+k.toNat*s)))
  |none=>False
 |some (.slice e),.nos b n,.int _ k=>match sizeV P e with
  |some s=>must (decide (0≤k)&&decide (k<n)) (K (.ptr b (k.toNat*s)))
  |none=>False
 |_,_,_=>False
theorem indexAddrK_ok{sx:Bool}{P:Program}{t:TypeId}{v i:V}{K:V→Prop}(h:indexAddrK sx P t v i K):Sure (indexAddrV P t v i) K:=by
 unfold indexAddrK at h;split at h
 ·rename_i e b off len ex c z kd k hu;split at h
  ·rename_i s hs;obtain⟨h1,h2⟩:=must_spec h;simp only[Bool.and_eq_true,decide_eq_true_eq]at h1;have h2:K (.ptr b (off+k.toNat*s)):=by
    rcases bif_elim h2 with⟨_,h2⟩|⟨_,h2⟩
    ·exact splitIx_ok len 0 k (fun q=>K (.ptr b (off+q*s))) h2
    ·exact h2
   exact⟨_,by simp only[indexAddrV,hu,hs];rw[if_pos h1],h2⟩
  ·exact h.elim
 ·rename_i n e b off kd k hu;split at h
  ·rename_i s hs;obtain⟨h1,h2⟩:=must_spec h;simp only[Bool.and_eq_true,decide_eq_true_eq]at h1;exact⟨_,by simp only[indexAddrV,hu,hs];rw[if_pos h1],h2⟩
  ·exact h.elim
 ·rename_i n e b off kd k hu;split at h
  ·rename_i s hs;obtain⟨h1,h2⟩:=must_spec h;simp only[Bool.and_eq_true,decide_eq_true_eq]at h1;have h2:K (.gp b (off+k.toNat*s)):=by
    rcases bif_elim h2 with⟨_,h2⟩|⟨_,h2⟩
    ·exact splitIx_ok n 0 k (fun q=>K (.gp b (off+q*s))) h2
    ·exact h2
   exact⟨_,by simp only[indexAddrV,hu,hs];rw[if_pos h1],h2⟩
  ·exact h.elim
 ·rename_i e x n cs kd k hu;split at h
  ·rename_i s hs;obtain⟨h1,h2⟩:=must_spec h;simp only[Bool.and_eq_true,decide_eq_true_eq]at h1;exact⟨_,by simp only[indexAddrV,hu,hs];rw[if_pos h1],h2⟩
  ·exact h.elim
 ·rename_i n e x j cs off kd k hu;split at h
  ·rename_i s hs;obtain⟨h1,h2⟩:=must_spec h;simp only[Bool.and_eq_true,decide_eq_true_eq]at h1;exact⟨_,by simp only[indexAddrV,hu,hs];rw[if_pos h1],h2⟩
  ·exact h.elim
 ·rename_i e b n kd k hu;split at h
  ·rename_i s hs;obtain⟨h1,h2⟩:=must_spec h;simp only[Bool.and_eq_true,decide_eq_true_eq]at h1;exact⟨_,by simp only[indexAddrV,hu,hs];rw[if_pos h1],h2⟩
  ·exact h.elim
 ·exact h.elim
def boundK(d:Nat)(o:Option V)(K:Nat→Prop):Prop:=
 match o with
 |none=>K d
 |some (.int _ k)=>must (decide (0≤k)) (K k.toNat)
 |_=>False
theorem boundK_ok{d:Nat}{o:Option V}{K:Nat→Prop}(h:boundK d o K):Sure (boundV d o) K:=by
 unfold boundK at h;split at h
 ·exact⟨_,rfl,h⟩
 ·obtain⟨h1,h2⟩:=must_spec h;exact⟨_,by simp only[boundV];rw[if_pos (of_decide_eq_true h1)],h2⟩
 ·exact h.elim
def sliceK(P:Program)(t:TypeId)(v:V)(lo hi:Option V)(K:V→Prop):Prop:=
 match P.underlying t,v with
 |some .string,.str s=>boundK 0 lo fun l=>boundK s.length hi fun h=>must (Nat.ble l h&&Nat.ble h s.length) (K (.str ((s.drop l).take (h-l))))
 |some (.slice e),.slice b off len ex c z=>match sizeV P e with
  |some s=>boundK 0 lo fun l=>boundK len hi fun h=>must (Nat.ble l h&&Nat.ble h len) (K (.slice b (off+l*s) (h-l) ex (if ex then c-l else c+l) (if l=0 then z else off)))
  |none=>False
 |some (.slice e),.nilSlice=>match sizeV P e with
  |some _=>boundK 0 lo fun l=>boundK 0 hi fun h=>must (Nat.beq l 0&&Nat.beq h 0) (K .nilSlice)
  |none=>False
 |some (.slice e),.lst x n cs=>match sizeV P e with
  |some s=>forceN s fun s=>boundK 0 lo fun l=>boundK n hi fun h=>must (Nat.ble l h&&Nat.ble h n) (K (.lst (sliceX x l h s) (h-l) ((cs.drop (l*s)).take ((h-l)*s))))
  |none=>False
 |_,_=>optK (sliceV P t v lo hi) K
theorem sliceK_ok{P:Program}{t:TypeId}{v:V}{lo hi:Option V}{K:V→Prop}(h:sliceK P t v lo hi K):Sure (sliceV P t v lo hi) K:=by
 unfold sliceK at h;split at h
 ·rename_i s hu;obtain⟨l,h1,h2⟩:=boundK_ok h;obtain⟨g,h3,h4⟩:=boundK_ok h2;obtain⟨h5,h6⟩:=must_spec h4;simp only[Bool.and_eq_true]at h5;exact⟨_,by simp only[sliceV,hu,h1,h3];rw[if_pos ⟨Nat.le_of_ble_eq_true h5.1,Nat.le_of_ble_eq_true h5.2⟩],h6⟩
 ·rename_i e b off len ex c z hu;split at h
  ·rename_i s hs;obtain⟨l,h1,h2⟩:=boundK_ok h;obtain⟨g,h3,h4⟩:=boundK_ok h2;obtain⟨h5,h6⟩:=must_spec h4;simp only[Bool.and_eq_true]at h5;exact⟨_,by simp only[sliceV,hu,h1,h3,hs];rw[if_pos ⟨Nat.le_of_ble_eq_true h5.1,Nat.le_of_ble_eq_true h5.2⟩],h6⟩
  ·exact h.elim
 ·rename_i e hu;split at h
  ·rename_i s hs;obtain⟨l,h1,h2⟩:=boundK_ok h;obtain⟨g,h3,h4⟩:=boundK_ok h2;obtain⟨h5,h6⟩:=must_spec h4;rw[Bool.and_eq_true]at h5;rw[Nat.eq_of_beq_eq_true h5.1]at h1;rw[Nat.eq_of_beq_eq_true h5.2]at h3;exact⟨_,by simp only[sliceV,hu,h1,h3,hs],h6⟩
  ·exact h.elim
 ·rename_i e x n cs hu;split at h
  ·rename_i s hs;rw[forceN_eq]at h;obtain⟨l,h1,h2⟩:=boundK_ok h;obtain⟨g,h3,h4⟩:=boundK_ok h2;obtain⟨h5,h6⟩:=must_spec h4;simp only[Bool.and_eq_true]at h5;exact⟨_,by simp only[sliceV,hu,h1,h3,hs];rw[if_pos ⟨Nat.le_of_ble_eq_true h5.1,Nat.le_of_ble_eq_true h5.2⟩],h6⟩
  ·exact h.elim
 ·exact optK_ok h
def slice3K(P:Program)(t:TypeId)(v:V)(lo:Option V)(hi mx:V)(K:V→Prop):Prop:=
 match P.underlying t,v,hi,mx with
 |some (.slice e),.lst x n cs,.int _ h,.int _ k=>match sizeV P e with
  |some s=>boundK 0 lo fun l=>must (decide (0≤h)&&(decide (0≤k)&&(Nat.ble l h.toNat&&(Nat.ble h.toNat k.toNat&&Nat.ble k.toNat n)))) (K (.lst (slice3X x l h.toNat k.toNat s) (h.toNat-l) ((cs.drop (l*s)).take ((h.toNat-l)*s))))
  |none=>False
 |_,_,_,_=>optK (slice3V P t v lo hi mx) K
theorem slice3K_ok{P:Program}{t:TypeId}{v hi mx:V}{lo:Option V}{K:V→Prop}(h:slice3K P t v lo hi mx K):Sure (slice3V P t v lo hi mx) K:=by
 unfold slice3K at h;split at h
 ·rename_i e x n cs k1 h' k2 k hu;split at h
  ·rename_i s hs;obtain⟨l,h1,h2⟩:=boundK_ok h;obtain⟨h5,h6⟩:=must_spec h2;simp only[Bool.and_eq_true,decide_eq_true_eq]at h5;exact⟨_,by simp only[slice3V,hu,h1,hs];rw[if_pos ⟨h5.1,h5.2.1,Nat.le_of_ble_eq_true h5.2.2.1,Nat.le_of_ble_eq_true h5.2.2.2.1,Nat.le_of_ble_eq_true h5.2.2.2.2⟩],h6⟩
  ·exact h.elim
 ·exact optK_ok h
def cellsK(st:St)(b off n:Nat)(K:List V→Prop):Prop:=
 match st[b]? with
 |some k=>must (Nat.ble (off+n) k.cs.length) (K ((k.cs.drop off).take n))
 |none=>False
theorem cellsK_ok{st:St}{b off n:Nat}{K:List V→Prop}(h:cellsK st b off n K):Sure (blkCells st b off n) K:=by
 unfold cellsK at h;split at h
 ·rename_i k hk;obtain⟨h1,h2⟩:=must_spec h;exact⟨_,by simp only[blkCells,hk];rw[if_pos (Nat.le_of_ble_eq_true h1)],h2⟩
 ·exact h.elim
def isIntV(k:IntKind):V→Bool
 |.int k' _=>decide (k'=k)
 |_=>false
def intOfV:V→Int
 |.int _ n=>n
 |_=>0
def isStrV:V→Bool
 |.str _=>true
 |_=>false
def strOfV:V→List UInt8
 |.str l=>l
 |_=>[]
def isBoolV:V→Bool
 |.bool _=>true
 |_=>false
def boolOfV:V→Bool
 |.bool b=>b
 |_=>false
def isLstV:V→Bool
 |.lst .. =>true
 |_=>false
def xOfV:V→Value
 |.lst x _ _=>x
 |_=>.nilIface
def nOfV:V→Nat
 |.lst _ n _=>n
 |_=>0
def csOfV:V→List V
 |.lst _ _ cs=>cs
 |_=>[]
def typed(z:Bool)(d:Option TypeDesc)(v:V)(K:V→Prop):Prop:=
 match d with
 |some (.int k)=>must (isIntV k v) (K (.int k (intOfV v)))
 |some .string=>must (isStrV v) (K (.str (strOfV v)))
 |some .bool=>must (isBoolV v) (K (.bool (boolOfV v)))
 |some (.slice _)=>bif z then must (isLstV v) (K (.lst (xOfV v) (nOfV v) (csOfV v)))else K v
 |_=>K v
theorem typed_ok{z:Bool}{d:Option TypeDesc}{v:V}{K:V→Prop}(h:typed z d v K):K v:=by
 unfold typed at h;split at h
 ·obtain⟨h1,h2⟩:=must_spec h;cases v<;>simp[isIntV]at h1;subst h1;exact h2
 ·obtain⟨h1,h2⟩:=must_spec h;cases v<;>simp[isStrV]at h1;exact h2
 ·obtain⟨h1,h2⟩:=must_spec h;cases v<;>simp[isBoolV]at h1;exact h2
 ·rcases bif_elim h with⟨_,h⟩|⟨_,h⟩
  ·obtain⟨h1,h2⟩:=must_spec h;cases v<;>simp[isLstV]at h1;exact h2
  ·exact h
 ·exact h
def fieldsK(z:Bool)(P:Program)(cs:List V)(off:Nat):List Field→Nat→(List V→Prop)→Prop
 |[],_,K=>K []
 |g::r,i,K=>typed z (P.underlying g.type) (cs.getD (off+i) (.bool false)) (fun v=>fieldsK z P cs off r (i+1) (fun l=>K (v::l)))
theorem fieldsK_ok{z:Bool}{P:Program}{cs:List V}{off:Nat}:∀(fs:List Field) (i:Nat) (K:List V→Prop),off+i+fs.length≤cs.length→fieldsK z P cs off fs i K→K ((cs.drop (off+i)).take fs.length)
 |[],i,K,_,h=>by simpa[fieldsK]using h
 |g::r,i,K,hl,h=>by
  simp only[fieldsK]at h;simp only[List.length_cons]at hl;have h1:=typed_ok h;have h2:=fieldsK_ok r (i+1) _ (by omega) h1;have hlt:off+i<cs.length:=by omega
  rw[List.getD_eq_getElem?_getD,List.getElem?_eq_getElem hlt,Option.getD_some]at h2;rw[List.drop_eq_getElem_cons hlt,List.length_cons,List.take_succ_cons];exact h2
def aggK(z:Bool)(P:Program)(st:St)(t:TypeId)(n b off:Nat)(K:List V→Prop):Prop:=
 match P.underlying t with
 |some (.struct fs)=>bif Nat.beq fs.toList.length n then match st[b]? with
   |some k=>must (Nat.ble (off+n) k.cs.length) (fieldsK z P k.cs off fs.toList 0 K)
   |none=>False
  else cellsK st b off n K
 |_=>cellsK st b off n K
theorem aggK_ok{z:Bool}{P:Program}{st:St}{t:TypeId}{n b off:Nat}{K:List V→Prop}(h:aggK z P st t n b off K):Sure (blkCells st b off n) K:=by
 unfold aggK at h;split at h
 ·rename_i fs _;rcases bif_elim h with⟨hn,h⟩|⟨_,h⟩
  ·have hn:=Nat.eq_of_beq_eq_true hn;split at h
   ·rename_i k hk;obtain⟨h1,h2⟩:=must_spec h;have hle:=Nat.le_of_ble_eq_true h1;have:=fieldsK_ok fs.toList 0 K (by omega) h2;rw[Nat.add_zero,hn]at this;exact⟨_,by simp only[blkCells,hk];rw[if_pos hle],this⟩
   ·exact h.elim
  ·exact cellsK_ok h
 ·exact cellsK_ok h
def loadK(z:Bool)(P:Program)(st:St)(t:TypeId)(b off:Nat)(K:V→Prop):Prop:=
 match isAggV P t with
 |some true=>match sizeV P t with
  |some n=>aggK z P st t n b off fun l=>K (.agg l)
  |none=>False
 |some false=>match st[b]? with
  |some k=>must (Nat.blt off k.cs.length) (typed z (P.underlying t) (k.cs.getD off (.bool false)) K)
  |none=>False
 |none=>False
theorem loadK_ok{z:Bool}{P:Program}{st:St}{t:TypeId}{b off:Nat}{K:V→Prop}(h:loadK z P st t b off K):Sure (loadV P st t b off) K:=by
 unfold loadK at h;split at h
 ·rename_i ha;split at h
  ·rename_i n hn;obtain⟨l,h1,h2⟩:=aggK_ok h;exact⟨_,by simp only[loadV,ha,hn,h1],h2⟩
  ·exact h.elim
 ·rename_i ha;split at h
  ·rename_i k hk;obtain⟨h1,h2⟩:=must_spec h;have hlt:=blt_true h1;refine⟨_,?_,typed_ok h2⟩;simp only[loadV,ha,hk];rw[List.getElem?_eq_getElem hlt,List.getD_eq_getElem?_getD,List.getElem?_eq_getElem hlt];rfl
  ·exact h.elim
 ·exact h.elim
def isByte:V→Bool
 |.int .u8 _=>true
 |_=>false
def byteOf:V→UInt8
 |.int .u8 n=>UInt8.ofNat n.toNat
 |_=>0
theorem bytesV_of:∀{l:List V},l.all isByte=true→bytesV l=some (l.map byteOf)
 |[],_=>rfl
 |v::r,h=>by
  simp only[List.all_cons,Bool.and_eq_true]at h;have:=bytesV_of h.2;cases v with
  |int k n=>cases k<;>first|(simp[isByte]at h;done)|simp[bytesV,byteV,this,byteOf]
  |_=>simp[isByte]at h
def convK(P:Program)(st:St)(s d:TypeId)(v:V)(K:V→Prop):Prop:=
 match P.underlying s,P.underlying d,v with
 |some (.slice e),some .string,.slice b off len ex c z=>match P.underlying e with
  |some (.int .u8)=>match st[b]? with
   |some k=>must (Nat.ble (off+len) k.cs.length) (must (((k.cs.drop off).take len).all isByte) (K (.str (((k.cs.drop off).take len).map byteOf))))
   |none=>False
  |_=>False
 |_,_,_=>optK (convV P st s d v) K
theorem convK_ok{P:Program}{st:St}{s d:TypeId}{v:V}{K:V→Prop}(h:convK P st s d v K):Sure (convV P st s d v) K:=by
 unfold convK at h;split at h
 ·rename_i e b off len ex c z hs hd;split at h
  ·rename_i he;split at h
   ·rename_i k hk;obtain⟨h1,h2⟩:=must_spec h;obtain⟨h3,h4⟩:=must_spec h2;refine⟨_,?_,h4⟩;simp only[convV,hs,hd,he];cases len with
    |zero=>simp
    |succ len=>
     simp only[blkCells,hk];rw[if_pos (Nat.le_of_ble_eq_true h1)];simp only[bytesV_of h3]
   ·exact h.elim
  ·exact h.elim
 ·exact optK_ok h
def okC(d:TypeDesc):List V→Bool
 |[]=>true
 |[_]=>false
 |a::_::r=>keyV d a&&okC d r
theorem okC_find{d:TypeDesc}(k:V):∀(n:Nat) {cs:List V},cs.length≤n→okC d cs=true→∃o,findC d k cs=some o
 |_,[],_,_=>⟨none,rfl⟩
 |_,[_],_,h=>by cases h
 |0,_::_::_,hn,_=>by simp at hn
 |n+1,a::v::r,hn,h=>by
  simp only[okC,Bool.and_eq_true]at h;obtain⟨o,ho⟩:=okC_find k n (cs:=r) (by simp at hn;omega) h.2;simp only[findC,h.1,cond_true,ho];cases keyEq k a<;>exact⟨_,rfl⟩
def findK(d:TypeDesc)(k:V):List V→(Option V→Prop)→Prop
 |[],K=>K none
 |[_],_=>False
 |a::v::r,K=>bif keyV d a&&okC d r then(bif keyEq k a then K (some v)else findK d k r K)else False
theorem findK_ok{d:TypeDesc}{k:V}:∀(n:Nat) {cs:List V} {K:Option V→Prop},cs.length≤n→findK d k cs K→∃o,findC d k cs=some o∧K o
 |_,[],K,_,h=>⟨none,rfl,h⟩
 |_,[_],K,_,h=>h.elim
 |0,_::_::_,_,hn,_=>by simp at hn
 |n+1,a::v::r,K,hn,h=>by
  simp only[findK]at h;rcases bif_elim h with⟨h1,h⟩|⟨_,h⟩
  ·rw[Bool.and_eq_true]at h1;rcases bif_elim h with⟨h2,h⟩|⟨h2,h⟩
   ·obtain⟨o,ho⟩:=okC_find k n (cs:=r) (by simp at hn;omega) h1.2;refine⟨some v,?_,h⟩;simp only[findC,h1.1,cond_true,h2,ho]
   ·obtain⟨o,ho,hK⟩:=findK_ok n (cs:=r) (by simp at hn;omega) h;exact⟨o,by simp only[findC,h1.1,cond_true,h2,cond_false];exact ho,hK⟩
  ·exact h.elim
def lookK(P:Program)(st:St)(t:TypeId)(x k:V)(ok:Bool)(K:V→Prop):Prop:=
 match P.underlying t with
 |some (.map kt et)=>match P.underlying kt,zeroV P et with
  |some d,some z=>bif keyV d k then(match x with
   |.nilMap=>K (outK ok z false)
   |.map b=>match st[b]? with
    |some (.mp cs)=>findK d k cs fun o=>match o with
     |some v=>K (outK ok v true)
     |none=>K (outK ok z false)
    |_=>False
   |_=>False)else False
  |_,_=>False
 |_=>False
theorem lookK_ok{P:Program}{st:St}{t:TypeId}{x k:V}{ok:Bool}{K:V→Prop}(h:lookK P st t x k ok K):Sure (lookV P st t x k ok) K:=by
 unfold lookK at h;unfold lookV;split at h
 case h_2=>exact h.elim
 rename_i kt et hu;split at h
 case h_2=>exact h.elim
 rename_i d z hd hz;simp only[hu,hd,hz];rcases bif_elim h with⟨hk,h⟩|⟨_,h⟩
 ·simp only[hk,cond_true];split at h
  ·exact⟨_,rfl,h⟩
  ·rename_i b;split at h
   ·rename_i cs hb;obtain⟨o,ho,hK⟩:=findK_ok cs.length (Nat.le_refl _) h;simp only[hb,ho];cases o with
    |some v=>exact⟨_,rfl,hK⟩
    |none=>exact⟨_,rfl,hK⟩
   ·exact h.elim
  ·exact h.elim
 ·exact h.elim
def pureK(P:Program)(st:St)(ρ:Operand→Option V)(op:Op)(K:V→Prop):Prop:=
 match op with
 |.pick c a b=>match ρ c with
  |some (.bool x)=>bif x then optK (ρ a) K else optK (ρ b) K
  |_=>False
 |.load t x=>match ρ x with
  |some (.ptr b off)=>loadK Z.z P st t b off K
  |some (.gp k off)=>match G.cells k with
   |some cs=>loadK false P [.ro false cs] t 0 off K
   |none=>False
  |some (.lptr _ _ cs off)=>loadK true P [.ro false cs] t 0 off K
  |_=>False
 |.binOp op t x y p=>match ρ x,ρ y with
  |some .nilIface,some .nilIface=>bif isLit x||isLit y then optK (nilIfV P op t) K else False
  |some u,some v=>binK P op t u v K
  |_,_=>False
 |.convert s d x=>match ρ x with
  |some v=>convK P st s d v K
  |none=>False
 |.slice t x lo hi none=>match ρ x,optV ρ lo,optV ρ hi with
  |some v,some l,some h=>sliceK P t v l h K
  |_,_,_=>False
 |.slice t x lo (some hi) (some mx)=>match ρ x,optV ρ lo,ρ hi,ρ mx with
  |some v,some l,some h,some k=>slice3K P t v l h k K
  |_,_,_,_=>False
 |.indexAddr t x i=>match ρ x,ρ i with
  |some u,some v=>indexAddrK Z.ix P t u v K
  |_,_=>False
 |.index t x i=>match ρ x,ρ i with
  |some u,some v=>indexK P t u v K
  |_,_=>False
 |.lookup t x i ok=>match ρ x,ρ i with
  |some u,some v=>lookK P st t u v ok K
  |_,_=>False
 |op=>optK (pureOp P st ρ op) K
theorem pureK_ok{P:Program}{st:St}{ρ:Operand→Option V}{op:Op}{K:V→Prop}(h:pureK P st ρ op K):Sure (pureOp P st ρ op) K:=by
 unfold pureK at h;split at h
 ·split at h
  ·rename_i hc;rcases bif_elim h with⟨rfl,h⟩|⟨rfl,h⟩
   ·obtain⟨v,h1,h2⟩:=optK_ok h;exact⟨v,by simp only[pureOp,hc];exact h1,h2⟩
   ·obtain⟨v,h1,h2⟩:=optK_ok h;exact⟨v,by simp only[pureOp,hc];exact h1,h2⟩
  ·exact h.elim
 ·split at h
  ·rename_i hc;obtain⟨v,h1,h2⟩:=loadK_ok h;exact⟨v,by simp only[pureOp,hc];exact h1,h2⟩
  ·rename_i hc;split at h
   ·rename_i cs hcs;obtain⟨v,h1,h2⟩:=loadK_ok h;exact⟨v,by simp only[pureOp,hc,loadG,hcs];exact h1,h2⟩
   ·exact h.elim
  ·rename_i hc;obtain⟨v,h1,h2⟩:=loadK_ok h;exact⟨v,by simp only[pureOp,hc,loadL];exact h1,h2⟩
  ·exact h.elim
 ·split at h
  ·rename_i hx hy;rcases bif_elim h with⟨hc,h⟩|⟨_,h⟩
   ·obtain⟨v,h1,h2⟩:=optK_ok h;exact⟨v,by simp only[pureOp,hx,hy,hc,cond_true];exact h1,h2⟩
   ·exact h.elim
  ·rename_i u v hne hx hy;obtain⟨r,h1,h2⟩:=binK_ok h;refine⟨r,?_,h2⟩;simp only[pureOp,hx,hy];exact h1
  ·exact h.elim
 ·split at h
  ·rename_i hx;obtain⟨v,h1,h2⟩:=convK_ok h;exact⟨v,by simp only[pureOp,hx];exact h1,h2⟩
  ·exact h.elim
 ·split at h
  ·rename_i hx hl hh;obtain⟨v,h1,h2⟩:=sliceK_ok h;exact⟨v,by simp only[pureOp,hx,hl,hh];exact h1,h2⟩
  ·exact h.elim
 ·split at h
  ·rename_i hx hl hh hk;obtain⟨v,h1,h2⟩:=slice3K_ok h;exact⟨v,by simp only[pureOp,hx,hl,hh,hk];exact h1,h2⟩
  ·exact h.elim
 ·split at h
  ·rename_i hx hy;obtain⟨v,h1,h2⟩:=indexAddrK_ok h;exact⟨v,by simp only[pureOp,hx,hy];exact h1,h2⟩
  ·exact h.elim
 ·split at h
  ·rename_i hx hy;obtain⟨v,h1,h2⟩:=indexK_ok h;exact⟨v,by simp only[pureOp,hx,hy];exact h1,h2⟩
  ·exact h.elim
 ·split at h
  ·rename_i hx hy;obtain⟨v,h1,h2⟩:=lookK_ok h;exact⟨v,by simp only[pureOp,hx,hy];exact h1,h2⟩
  ·exact h.elim
 ·exact optK_ok h
end Go.Vm
