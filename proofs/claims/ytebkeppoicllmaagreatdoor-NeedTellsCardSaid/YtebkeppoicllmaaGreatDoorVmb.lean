/- The virtual machine of this work, continued: regions that draw, ranges, functions whole. -/
import Derived.Test.YtebkeppoicllmaaGreatDoorVma
set_option linter.unusedVariables false
set_option linter.unusedSectionVars false
namespace Go.Vm
variable [G:Glob] [Φ:Frz]
open Go.RowKit
structure Rec where
 dst:Option Tmp
 v:V
 anc:Nat
 blks:List Blk
def hole:MB:=⟨0,0,0,true⟩
def Blk.keep:Blk→Blk
 |.ro true cs=>.ro true cs
 |.row cs t sz=>.row cs t sz
 |.mpu=>.mpu
 |.mp cs=>.mpu
 |_=>.dead
def lenR:List Rec→Nat
 |[]=>0
 |r::s=>r.blks.length+lenR s
def memR(anc:Nat):Nat→List Rec→St
 |_,[]=>[]
 |k,r::s=>(bif Nat.testBit anc k then r.blks.map Blk.toRo else r.blks.map fun _=>Blk.dead)++memR anc (k+1) s
def tmpR(anc t:Nat):Nat→List Rec→Option V
 |_,[]=>none
 |k,r::s=>match r.dst with
  |some d=>bif Nat.beq d t then(bif Nat.testBit anc k then some r.v else none)else tmpR anc t (k+1) s
  |none=>tmpR anc t (k+1) s
def aB(recs:List Rec):List Edge→Nat
 |[]=>0
 |e::r=>bif Region.binds .any e then((1<<<e.on)|||((recs[e.on]?).map (·.anc)).getD 0)|||aB recs r else aB recs r
def aU(f:Fr)(dsts:List Tmp)(anc:Nat)(recs:List Rec)(t:Nat):Option V:=
 bif dsts.any (Nat.beq t)then tmpR anc t 0 recs else f.T.get t
def de(ops:Array Oper)(T:Nat→Option V)(o:Oper):Option Bool:=
 match o.guard with
 |none=>some true
 |some (j,want)=>match ops[j]? with
  |some oj=>match oj.dst with
   |some d=>match T d with
    |some (.bool b)=>some (b==want)
    |some (.tuple [])=>some false
    |_=>none
   |none=>none
  |none=>none
def cj(P:Program)(call:Call)(T:Nat→Option V)(mem:St)(op:Op):Option (V×St):=
 match aT P mem (ev T) op with
 |some v=>some (v,mem)
 |none=>match dI P mem (ev T) op with
  |some r=>some r
  |none=>match op with
   |.call {callee:=.value x,args,argTypes}=>match ev T x,evL (ev T) args.toList with
    |some (.func (.func g) fs cs),some as=>bif bi P g then iW call g (fs++as++cs) mem else none
    |some (.yield l),some as=>call (.yld l) as mem
    |_,_=>none
   |_=>none
def capB(ops:Array Oper)(o:Oper):Bool:=match o.op with
 |.buildSlice .. =>ops.toList.any fun p=>match p.op with
  |.call {callee:=.builtin .append,args,argTypes:=_}=>match args.toList with
   |.tmp t::_=>(match o.dst with
    |some d=>Nat.beq d t
    |none=>false)
   |_=>false
  |_=>false
 |_=>false
def j0(P:Program)(call:Call)(ops:Array Oper)(f:Fr)(st:St)(dsts:List Tmp)(recs:List Rec)(o:Oper):Option Rec:=
 bif o.after.toList.all (fun e=>!Region.binds .any e||Nat.blt e.on recs.length)then
  match de ops (aU f dsts (aB recs o.after.toList) recs) o with
  |some false=>some ⟨o.dst,.tuple [],aB recs o.after.toList,[]⟩
  |some true=>match cj P call (aU f dsts (aB recs o.after.toList) recs) (st.map Blk.toRo++memR (aB recs o.after.toList) 0 recs) o.op with
   |some (v,s2)=>some ⟨o.dst,capX (capB ops o) v,aB recs o.after.toList,(s2.drop (st.length+lenR recs)).map Blk.keep⟩
   |none=>none
  |none=>none
 else none
def ka(P:Program)(call:Call)(ops:Array Oper)(f:Fr)(st:St)(dsts:List Tmp):List Oper→List Rec→Option (List Rec)
 |[],recs=>some recs
 |o::r,recs=>match j0 P call ops f st dsts recs o with
  |some x=>ka P call ops f st dsts r (recs++[x])
  |none=>none
def b7(ops:Array Oper):List Tmp:=ops.toList.filterMap (·.dst)
def dr:List Tmp→Bool
 |[]=>true
 |d::r=>!r.any (Nat.beq d)&&dr r
def fq(f:Fr):List Rec→Fr
 |[]=>f
 |r::s=>fq (f.put r.dst r.v) s
def gY:List Rec→St
 |[]=>[]
 |r::s=>r.blks++gY s
def ju(P:Program)(call:Call)(ops:Array Oper)(f:Fr)(st:St):Option (Fr×St):=
 bif (dr (b7 ops)&&(b7 ops).all (fun d=>Nat.blt d f.sz))&&dW ops then
  match ka P call ops f st (b7 ops) ops.toList []with
  |some recs=>some (fq f recs,st++gY recs)
  |none=>none
 else none
section
variable {P:Program} {call:Call} {ro:Option Nat} {f:Fr} {st:St} {B:Nat} {W0 w w':World} {m:List MB}
theorem BlkOk.lower{B':Nat}(hB:B'≤B){e:MB}:∀{b:Blk},BlkOk B m w e b→BlkOk B' m w e b
 |.dead,_=>trivial
 |.ro own cs,⟨h1,h2⟩=>⟨fun h=>Nat.le_trans hB (h1 h),h2⟩
 |.row cs t sz,⟨h1,h2⟩=>⟨Nat.le_trans hB h1,h2⟩
 |.defd,⟨h1,h2⟩=>⟨Nat.le_trans hB h1,h2⟩
 |.mpu,⟨h1,h2⟩=>⟨Nat.le_trans hB h1,h2⟩
 |.mp cs,⟨h1,h2⟩=>⟨Nat.le_trans hB h1,h2⟩
 |.sit s pos,⟨h1,h2⟩=>⟨Nat.le_trans hB h1,h2⟩
 |.loop ..,⟨h1,h2⟩=>⟨Nat.le_trans hB h1,h2⟩
theorem BlkOk.keep{e:MB}:∀{b:Blk},BlkOk B m w e b→BlkOk B m w e b.keep
 |.dead,_=>trivial
 |.ro true cs,h=>h
 |.ro false cs,_=>trivial
 |.row cs t sz,h=>h
 |.defd,_=>trivial
 |.mpu,h=>h
 |.mp cs,⟨h1,es,c,xs,h2,_⟩=>⟨h1,es,c,h2⟩
 |.sit s pos,_=>trivial
 |.loop ..,_=>trivial
theorem m8{e:MB}:∀{b:Blk},BlkOk B m w e b→b.keep.live=true→B≤e.blk
 |.dead,_,h=>by simp[Blk.keep,Blk.live]at h
 |.ro true cs,h,_=>h.1 rfl
 |.ro false cs,_,h=>by simp[Blk.keep,Blk.live]at h
 |.row cs t sz,h,_=>h.1
 |.defd,_,h=>by simp[Blk.keep,Blk.live]at h
 |.mpu,h,_=>h.1
 |.mp cs,h,_=>h.1
 |.sit s pos,_,h=>by simp[Blk.keep,Blk.live]at h
 |.loop ..,_,h=>by simp[Blk.keep,Blk.live]at h
theorem BlkOk.toRo{e:MB}:∀{b:Blk},BlkOk B m w e b→∀B',BlkOk B' m w e b.toRo
 |.dead,_,_=>trivial
 |.ro own cs,h,_=>⟨fun h=>(by cases h),h.2⟩
 |.row cs t sz,⟨a1,a2,arr,xs,⟨fz,_,a3⟩,a4,a5,a6⟩,_=>⟨fun h=>(by cases h),arr,t,_,a3,fun i v hv=>by
   obtain⟨x,hx,ha⟩:=cf a4 hv;refine⟨x,hx,?_⟩;rw[a2,Nat.zero_add];rw[←a5,List.getElem?_take]at ha;split at ha
   ·simpa using ha
   ·cases ha⟩
 |.defd,_,_=>trivial
 |.mpu,_,_=>trivial
 |.mp cs,_,_=>trivial
 |.sit s pos,_,_=>trivial
 |.loop ..,_,_=>trivial
theorem Rel.ofRo{n:List MB}{s:St}(hg:GOk w.heap.size w)(hl:n.length=s.length)(hb:∀(i:Nat) (b:Blk) (e:MB),s[i]?=some b→n[i]?=some e→BlkOk w.heap.size n w e b∧b.rw=false):Rel w.heap.size w n s w:=
 ⟨hl,Nat.le_refl _,Below.refl _ _,fun i b e h1 h2=>(hb i b e h1 h2).1,fun i j b c d e _ h1 h2 _ _ h3 _=>(by rw[(hb i b d h1 h3).2]at h2;cases h2),hg⟩
theorem i3(b:Blk):b.toRo.rw=false:=by cases b<;>rfl
theorem j8(a b:List Rec):lenR (a++b)=lenR a+lenR b:=by
 induction a with
 |nil=>simp[lenR]
 |cons r s ih=>simp only[List.cons_append,lenR,ih];omega
theorem fa{R:List Rec}{j:Nat}{r:Rec}(h:R[j]?=some r):lenR (R.take (j+1))=lenR (R.take j)+r.blks.length:=by
 rw[List.take_add_one,h,j8];simp[lenR]
theorem cL(R:List Rec){i j:Nat}(h:i≤j):lenR (R.take i)≤lenR (R.take j):=by
 have:R.take j=R.take i++(R.drop i).take (j-i):=by
  rw[←List.take_add];congr 1;omega
 rw[this,j8];omega
theorem ly(anc:Nat):∀(R:List Rec) (k:Nat),(memR anc k R).length=lenR R
 |[],k=>rfl
 |r::s,k=>by
  simp only[memR,List.length_append,lenR,ly anc s (k+1)];cases Nat.testBit anc k<;>simp
theorem memR_get(anc:Nat):∀(R:List Rec) (k i:Nat) (b:Blk),(memR anc k R)[i]?=some b→∃j r q c,R[j]?=some r∧r.blks[q]?=some c∧i=lenR (R.take j)+q∧((Nat.testBit anc (k+j)=true∧b=c.toRo)∨b=.dead)
 |[],k,i,b,h=>by simp[memR]at h
 |r::s,k,i,b,h=>by
  simp only[memR]at h;have hlen:(bif Nat.testBit anc k then r.blks.map Blk.toRo else r.blks.map fun _=>Blk.dead).length=r.blks.length:=by cases Nat.testBit anc k<;>simp
  rcases Nat.lt_or_ge i r.blks.length with hlt|hge
  ·rw[List.getElem?_append_left (by omega)]at h;refine⟨0,r,i,r.blks[i],by simp,List.getElem?_eq_getElem hlt,by simp[lenR],?_⟩;cases ht:Nat.testBit anc k with
   |true=>rw[ht,ac,List.getElem?_map,List.getElem?_eq_getElem hlt]at h;simp at h;exact .inl ⟨(by simp only),h.symm⟩
   |false=>rw[ht,ai,List.getElem?_map,List.getElem?_eq_getElem hlt]at h;simp at h;exact .inr h.symm
  ·rw[List.getElem?_append_right (by omega),hlen]at h;obtain⟨j,r',q,c,h1,h2,h3,h4⟩:=memR_get anc s (k+1) _ b h;refine⟨j+1,r',q,c,by simpa using h1,h2,by simp only[List.take_succ_cons,lenR];omega,?_⟩;rcases h4 with⟨h4,h5⟩|h4
   ·exact .inl ⟨by rw[←h4];congr 1;omega,h5⟩
   ·exact .inr h4
theorem kQ(anc t:Nat):∀(R:List Rec) (k:Nat) (v:V),tmpR anc t k R=some v→∃j r,R[j]?=some r∧r.dst=some t∧Nat.testBit anc (k+j)=true∧v=r.v
 |[],k,v,h=>by simp[tmpR]at h
 |r::s,k,v,h=>by
  simp only[tmpR]at h;have next:tmpR anc t (k+1) s=some v→∃j r',(r::s)[j]?=some r'∧r'.dst=some t∧Nat.testBit anc (k+j)=true∧v=r'.v:=by
   intro h;obtain⟨j,r',h1,h2,h3,h4⟩:=kQ anc t s (k+1) v h;exact⟨j+1,r',by simpa using h1,h2,by rw[←h3];congr 1;omega,h4⟩
  split at h
  ·rename_i d hd;cases hb:Nat.beq d t with
   |true=>
    rw[hb,ac]at h;cases ht:Nat.testBit anc k with
    |true=>rw[ht,ac]at h;cases h;exact⟨0,r,by simp,by rw[hd,aC hb],ht,rfl⟩
    |false=>rw[ht,ai]at h;cases h
   |false=>rw[hb,ai]at h;exact next h
  ·exact next h
theorem opVal_upon(hc:a9 P call){n:List MB}{mem:St}{T:Nat→Option V}{a:Act}{F:Fence}{Q:Exit→Act→World→Prop}{mF:List MB}(hF:FOk mF ro F)
  (hT:∀t v,T t=some v→∃x,a.tmps[t]?=some x∧real n v=some x)(hr:Rel w.heap.size w n mem w){o:Oper}{v:V}{s2:St}(h:cj P call T mem o.op=some (v,s2))(hnd:∀c,o.op≠.defer c)
  {K:Act→World→Prop}(hK:∀x m' w',Ext n m'→real m' v=some x→Rel w.heap.size w m' s2 w'→K (a.put o.dst x) w'):o.wpIn F 0 P a w K Q:=by
 have hρ:∀x v,ev T x=some v→real n v=some (a.eval x):=by
  intro x v hv;cases x with
  |tmp t=>
   obtain⟨y,h1,h2⟩:=hT t v hv;rw[h2];simp[Act.eval,Array.getD_eq_getD_getElem?,h1]
  |const c=>exact bS n hv
  |global g=>exact dE hv
  |func f=>simp only[ev,ad]at hv;subst hv;simp[real,ak,Act.eval]
 unfold cj at h;refine⟨fun g _=>hF.fn g,?_⟩;rw[Oper.semAt_eq _ _ _ hnd];split at h
 ·rename_i v' hv;cases h;obtain⟨x,h1,h2⟩:=eO hr hρ hv;rw[h2,Oper.uponIn_value];exact hK x n w (Ext.refl n) h1 hr
 ·split at h
  ·rename_i r hv;cases h;obtain⟨x,m',w',h1,h2,h3,h4⟩:=lT hr hρ hv;rcases h4 with h4|⟨h4,rfl⟩
   ·rw[h4,Oper.uponIn_value];exact hK x m' w' h1 h2 h3
   ·rw[h4,Oper.uponIn_skip];exact hK _ m' w' h1 h2 h3
  ·split at h
   ·rename_i x args ats ho;split at h
    ·rename_i g fs cs as hx has;cases hp:bi P g with
     |false=>rw[hp]at h;cases h
     |true=>
      rw[hp,ac]at h;have h1:=hρ _ _ hx;have h2:=df hρ has;simp only[real]at h1;split at h1
      ·rename_i rfs rcs hfs hcs;have hrun:(execOp a.eval o).run P w=.ok (.enter g (rfs++args.toList.map a.eval++rcs).toArray) w:=by
        simp only[execOp,ho,resolve,Sem.run_bind];rw[←Option.some.inj h1];simp only[Deferred.ofValue,Sem.run_pure,Result.andThen_ok,invoke];rw[cI hp];congr 2;apply Array.ext';simp
       have hcalls:=jX hc h w.heap.size w n w _ (aG (aG hfs h2) hcs) hr;rw[hrun,Oper.uponIn_enter];refine hF.calls (hcalls.mono ?_);rintro e w' ⟨v',y,m',st',rfl,e1,e2,e3,e4⟩;cases e4;exact hK y m' w' e1 e2 e3
      ·cases h1
    ·rename_i l as hx has;have h1:=hρ _ _ hx;have h2:=df hρ has;simp only[real]at h1;split at h1
     ·rename_i e he;obtain⟨fn,tmps,assign,body,hy,hround⟩:=hc (.yld l) as mem _ h w.heap.size w n w _ e h2 hr (bz he);have hrun:(execOp a.eval o).run P w=.ok (.round e.blk fn tmps assign body) w:=by
       simp only[execOp,ho,resolve,Sem.run_bind];rw[←Option.some.inj h1];simp only[Deferred.ofValue,Sem.run_pure,Result.andThen_ok,invoke];have:(#[]:Array Value)++args.map a.eval=(args.toList.map a.eval).toArray:=by apply Array.ext';simp
       rw[this];exact hy
      rw[hrun,Oper.uponIn_round];refine hF.round (hround.mono ?_);rintro e' w' ⟨v',y,m',st',rfl,e1,e2,e3,e4⟩;cases e4;exact hK y m' w' e1 e2 e3
     ·cases h1
    ·cases h
   ·cases h
theorem opValC_upon{ops:Array Oper}(hc:a9 P call){n:List MB}{mem:St}{T:Nat→Option V}{a:Act}{F:Fence}{Q:Exit→Act→World→Prop}{mF:List MB}(hF:FOk mF ro F)
  (hT:∀t v,T t=some v→∃x,a.tmps[t]?=some x∧real n v=some x)(hr:Rel w.heap.size w n mem w){o:Oper}{v:V}{s2:St}(h:cj P call T mem o.op=some (v,s2))(hnd:∀c,o.op≠.defer c)
  {K:Act→World→Prop}(hK:∀x m' w',Ext n m'→real m' (capX (capB ops o) v)=some x→Rel w.heap.size w m' s2 w'→K (a.put o.dst x) w'):o.wpIn F 0 P a w K Q:=by
 cases hcb:capB ops o with
 |false=>
  refine opVal_upon hc hF hT hr h hnd fun x m' w' h1 h2 h3=>hK x m' w' h1 ?_ h3;rw[hcb];exact h2
 |true=>
  rw[hcb]at hK;have hρ:∀x v,ev T x=some v→real n v=some (a.eval x):=by
   intro x v hv;cases x with
   |tmp t=>
    obtain⟨y,h1,h2⟩:=hT t v hv;rw[h2];simp[Act.eval,Array.getD_eq_getD_getElem?,h1]
   |const c=>exact bS n hv
   |global g=>exact dE hv
   |func f=>simp only[ev,ad]at hv;subst hv;simp[real,ak,Act.eval]
  unfold capB at hcb;split at hcb
  ·rename_i t len parts ho;refine⟨fun g _=>hF.fn g,?_⟩;rw[Oper.semAt_eq _ _ _ hnd];unfold cj at h;rw[ho]at h;simp only[aT]at h;split at h
   ·rename_i r hv;cases h;simp only[dI]at hv;split at hv
    ·rename_i ps hps;have hp:=gg hρ hps;obtain⟨x',m',w',q1,q2,q3,q4⟩:=km (rs:=parts.map fun p=>(p.1,a.eval p.2)) hr hv (by simpa using hp);have h4:(execOp a.eval o).run P w=.ok (.value x') w':=by simp only[execOp,ho];simp[q4]
     rw[h4,Oper.uponIn_value];exact hK x' m' w' q1 q2 q3
    ·cases hv
   ·cases h
  ·cases hcb
theorem eR{n:List MB}{ops:Array Oper}{T:Nat→Option V}{a:Act}{o:Oper}{b:Bool}(hT:∀t v,T t=some v→∃x,a.tmps[t]?=some x∧real n v=some x)(hg:de ops T o=some b):Region.wanted o (yielded ops a.tmps)=b:=by
 unfold de at hg;unfold Region.wanted;split at hg
 ·rename_i h0;cases hg;rw[h0]
 ·rename_i j want h0;rw[h0];split at hg
  ·rename_i oj hj;split at hg
   ·rename_i d hd;split at hg
    ·rename_i b' hb;cases hg;obtain⟨x,h1,h2⟩:=hT d _ hb;cases ce h2;simp[yielded,hj,hd,h1]
    ·rename_i hb;cases hg;obtain⟨x,h1,h2⟩:=hT d _ hb;obtain⟨xs,h3,rfl⟩:=iI h2;simp[yielded,hj,hd,h1]
    ·cases hg
   ·cases hg
  ·cases hg
end
end Go.Vm
namespace Go.Vm
variable [G:Glob] [Φ:Frz]
open Go.RowKit
theorem rw_live(b:Blk)(hb:b.rw=true):b.live=true:=by cases b<;>first|rfl|simp[Blk.rw]at hb
theorem lQ{P:Program}{call:Call}{ops:Array Oper}{f:Fr}{st:St}{dsts:List Tmp}:∀(l:List Oper) (recs R:List Rec),ka P call ops f st dsts l recs=some R→
  R.take recs.length=recs∧R.length=recs.length+l.length∧∀(j:Nat) (o:Oper),l[j]?=some o→∃r,R[recs.length+j]?=some r∧j0 P call ops f st dsts (R.take (recs.length+j)) o=some r
 |[],recs,R,h=>by
  simp only[ka,ad]at h;subst h;exact⟨by simp,by simp,fun j o hj=>by simp at hj⟩
 |o::l,recs,R,h=>by
  simp only[ka]at h;split at h
  ·rename_i x hx;obtain⟨h1,h2,h3⟩:=lQ l (recs++[x]) R h;have ht:R.take recs.length=recs:=by
    have:=congrArg (List.take recs.length) h1;rw[List.take_take,List.length_append]at this;simpa[Nat.min_eq_left]using this
   have hx':R[recs.length]?=some x:=by
    have:=congrArg (fun q:List Rec=>q[recs.length]?) h1;simpa using this
   refine⟨ht,by simp at h2;simp;omega,fun j o' hj=>?_⟩;cases j with
   |zero=>
    simp only[bQ,ad]at hj;subst hj;exact⟨x,by simpa using hx',by simpa[ht]using hx⟩
   |succ j=>
    simp only[List.getElem?_cons_succ]at hj;obtain⟨r,g1,g2⟩:=h3 j o' hj;have e:(recs++[x]).length+j=recs.length+(j+1):=by simp;omega
    rw[e]at g1 g2;exact⟨r,g1,g2⟩
  ·cases h
theorem ij{recs:List Rec}{k:Nat}:∀{es:List Edge},Nat.testBit (aB recs es) k=true→∃e∈es,Region.binds .any e=true∧(e.on=k∨∃r,recs[e.on]?=some r∧Nat.testBit r.anc k=true)
 |[],h=>by simp[aB]at h
 |e::r,h=>by
  simp only[aB]at h;cases hb:Region.binds .any e with
  |false=>
   rw[hb,ai]at h;obtain⟨e',h1,h2,h3⟩:=ij h;exact⟨e',List.mem_cons_of_mem _ h1,h2,h3⟩
  |true=>
   rw[hb,ac,Nat.testBit_or,Nat.testBit_or,Bool.or_eq_true,Bool.or_eq_true]at h;rcases h with(h|h)|h
   ·refine⟨e,List.mem_cons_self,hb,.inl ?_⟩;rw[Nat.one_shiftLeft,Nat.testBit_two_pow]at h;simpa using h
   ·refine⟨e,List.mem_cons_self,hb,.inr ?_⟩;cases hr:recs[e.on]? with
    |none=>simp[hr]at h
    |some q=>simp[hr]at h;exact⟨q,rfl,h⟩
   ·obtain⟨e',h1,h2,h3⟩:=ij h;exact⟨e',List.mem_cons_of_mem _ h1,h2,h3⟩
theorem ei{P:Program}{call:Call}{ops:Array Oper}{f:Fr}{st:St}{dsts:List Tmp}{recs:List Rec}{o:Oper}{r:Rec}(h:j0 P call ops f st dsts recs o=some r):
  (∀e∈o.after,Region.binds .any e=true→e.on<recs.length)∧r.dst=o.dst∧r.anc=aB recs o.after.toList∧
  ((de ops (aU f dsts r.anc recs) o=some false∧r.v=.tuple []∧r.blks=[])∨
   (de ops (aU f dsts r.anc recs) o=some true∧∃v s2,cj P call (aU f dsts r.anc recs) (st.map Blk.toRo++memR r.anc 0 recs) o.op=some (v,s2)∧r.v=capX (capB ops o) v∧r.blks=(s2.drop (st.length+lenR recs)).map Blk.keep)):=by
 unfold j0 at h;cases hb:o.after.toList.all (fun e=>!Region.binds .any e||Nat.blt e.on recs.length)with
 |false=>rw[hb]at h;cases h
 |true=>
  rw[hb,ac]at h;have h0:∀e∈o.after,Region.binds .any e=true→e.on<recs.length:=by
   intro e he hbe;have:=List.all_eq_true.1 hb e (by simpa using he);simp only[hbe,Bool.not_true,Bool.false_or]at this;exact dt this
  split at h
  ·rename_i hg;cases h;exact⟨h0,rfl,rfl,.inl ⟨hg,rfl,rfl⟩⟩
  ·rename_i hg;split at h
   ·rename_i v s2 hv;cases h;exact⟨h0,rfl,rfl,.inr ⟨hg,v,s2,hv,rfl,rfl⟩⟩
   ·cases h
  ·cases h
def ma(st:St)(R:List Rec)(S:Nat→Prop)(i:Nat)(b:Blk):Prop:=
 st[i]?=some b∨∃j r k,R[j]?=some r∧S j∧r.blks[k]?=some b∧i=st.length+lenR (R.take j)+k
structure Inv (B:Nat) (W0:World) (m:List MB) (st:St) (f:Fr) (R:List Rec) (dsts:List Tmp) (S:Nat→Prop) (a:Act) (w:World) (mS:List MB):Prop where
 len:mS.length=st.length+lenR R
 ext:Ext m mS
 old:Rel B W0 m st w
 done:∀(j:Nat) (r:Rec),R[j]?=some r→S j→∀(k:Nat) (b:Blk),r.blks[k]?=some b→∃e,mS[st.length+lenR (R.take j)+k]?=some e∧BlkOk B (mS.take (st.length+lenR (R.take (j+1)))) w e b
 todo:∀(j:Nat) (r:Rec),R[j]?=some r→¬S j→∀k,k<r.blks.length→mS[st.length+lenR (R.take j)+k]?=some hole
 inj:∀(i i':Nat) (b b':Blk) (e e':MB),i≠i'→ma st R S i b→b.rw=true→ma st R S i' b'→b'.live=true→mS[i]?=some e→mS[i']?=some e'→e.blk≠e'.blk
 sz:a.tmps.size=f.sz
 val:∀(j:Nat) (r:Rec) (d:Tmp),R[j]?=some r→S j→r.dst=some d→∃x,a.tmps[d]?=some x∧real (mS.take (st.length+lenR (R.take (j+1)))) r.v=some x
 kept:∀(t:Nat) (v:V),t∉dsts→f.T.get t=some v→∃x,a.tmps[t]?=some x∧real m v=some x
 defers:DOk m f.defs a.defers
section
variable {P:Program} {call:Call} {ro:Option Nat} {f:Fr} {st:St} {B:Nat} {W0 w w':World} {m mS:List MB} {R:List Rec} {dsts:List Tmp} {S:Nat→Prop} {a:Act}
theorem Ext.take{m mS:List MB}{n k:Nat}(h:n≤k):Ext (mS.take n) (mS.take k):=by
 intro b e hb;rw[List.getElem?_take]at hb ⊢;split at hb
 ·rename_i hlt;rw[if_pos (by omega)];exact hb
 ·cases hb
theorem Ext.into_take{k:Nat}(h:Ext m mS)(hk:m.length≤k):Ext m (mS.take k):=by
 intro b e hb;have:=(List.getElem?_eq_some_iff.1 hb).1;rw[List.getElem?_take,if_pos (by omega)];exact h b e hb
theorem Inv.look(hI:Inv B W0 m st f R dsts S a w mS){i anc:Nat}(hi:i≤R.length)(hanc:∀k,Nat.testBit anc k=true→S k):
  (∀t v,aU f dsts anc (R.take i) t=some v→∃x,a.tmps[t]?=some x∧real (mS.take (st.length+lenR (R.take i))) v=some x)∧
  Rel w.heap.size w (mS.take (st.length+lenR (R.take i))) (st.map Blk.toRo++memR anc 0 (R.take i)) w:=by
 have hmle:m.length≤st.length+lenR (R.take i):=by rw[hI.old.len];omega
 have htot:st.length+lenR (R.take i)≤mS.length:=by
  rw[hI.len];have:=cL R hi;rw[List.take_length]at this;omega
 have gtake:∀{j:Nat} {r:Rec},(R.take i)[j]?=some r→j<i∧R[j]?=some r:=by
  intro j r h;rw[List.getElem?_take]at h;split at h
  ·rename_i hlt;exact⟨hlt,h⟩
  ·cases h
 constructor
 ·intro t v hv;unfold aU at hv;cases hd:dsts.any (Nat.beq t)with
  |true=>
   rw[hd,ac]at hv;obtain⟨j,r,h1,h2,h3,rfl⟩:=kQ anc t _ 0 v hv;obtain⟨hji,hj⟩:=gtake h1;obtain⟨x,hx,hr⟩:=hI.val j r t hj (hanc j (by simpa using h3)) h2;exact⟨x,hx,dB (Ext.take (m:=m) (by have:=cL R (i:=j+1) (j:=i) (by omega);omega)) _ _ hr⟩
  |false=>
   rw[hd,ai]at hv;have hnd:t∉dsts:=by
    intro hmem;have:dsts.any (Nat.beq t)=true:=List.any_eq_true.2 ⟨t,hmem,Nat.beq_refl t⟩;rw[hd]at this;cases this
   obtain⟨x,hx,hr⟩:=hI.kept t v hnd hv;exact⟨x,hx,dB (hI.ext.into_take hmle) _ _ hr⟩
 ·refine Rel.ofRo hI.old.gok ?_ ?_
  ·rw[List.length_take,List.length_append,List.length_map,ly];omega
  ·intro p b e hb he;rw[List.getElem?_take]at he;split at he
   case isFalse=>cases he
   rename_i hp;rcases Nat.lt_or_ge p st.length with hlt|hge
   ·rw[List.getElem?_append_left (by simpa using hlt),List.getElem?_map]at hb;cases hc:st[p]? with
    |none=>simp[hc]at hb
    |some c=>
     simp only[hc,Option.map_some,ad]at hb;subst hb;obtain⟨e',he',hok⟩:=hI.old.at hc;have:=hI.ext p e' he';rw[he]at this;cases this;exact⟨(hok.mono (hI.ext.into_take hmle)).toRo _,i3 c⟩
   ·rw[List.getElem?_append_right (by simpa using hge),List.length_map]at hb;obtain⟨j,r,q,c,h1,h2,h3,h4⟩:=memR_get anc _ 0 _ b hb;obtain⟨hji,hj⟩:=gtake h1;rcases h4 with⟨h4,rfl⟩|rfl
    ·obtain⟨e',he',hok⟩:=hI.done j r hj (hanc j (by simpa using h4)) q c h2;have htk:(R.take i).take j=R.take j:=by rw[List.take_take];congr 1;omega
     rw[htk]at h3;have:p=st.length+lenR (R.take j)+q:=by omega
     rw[←this,he]at he';cases he';exact⟨(hok.mono (Ext.take (m:=m) (by have:=cL R (i:=j+1) (j:=i) (by omega);omega))).toRo _,i3 c⟩
    ·exact⟨trivial,rfl⟩
theorem Inv.step(hI:Inv B W0 m st f R dsts S a w mS){i:Nat}{r:Rec}(hi:R[i]?=some r)(hS:¬S i)(hdis:∀(j:Nat) (r':Rec) (d:Tmp),R[j]?=some r'→r.dst=some d→r'.dst=some d→j=i)
  (hds:∀d,r.dst=some d→d<f.sz∧d∈dsts){x:Value}{m':List MB}{s2:St}(he:Ext (mS.take (st.length+lenR (R.take i))) m')(hx:real m' r.v=some x)(hr:Rel w.heap.size w m' s2 w')
  (hblk:r.blks=(s2.drop (st.length+lenR (R.take i))).map Blk.keep):
  ∃mS',AExt mS mS'∧(∀p,p<st.length+lenR (R.take (i+1))→mS'[p]?=m'[p]?)∧Inv B W0 m st f R dsts (fun j=>S j∨j=i) (a.put r.dst x) w' mS':=by
 have hlt:i<R.length:=(List.getElem?_eq_some_iff.1 hi).1;have htot:st.length+lenR (R.take (i+1))≤mS.length:=by
  rw[hI.len];have:=cL R (i:=i+1) (j:=R.length) (by omega);rw[List.take_length]at this;omega
 have hsucc:=fa hi;generalize hO:st.length+lenR (R.take i)=O at*
 have hO1:st.length+lenR (R.take (i+1))=O+r.blks.length:=by omega
 have hnl:(mS.take O).length=O:=by rw[List.length_take];omega
 have hm'ge:O≤m'.length:=by
  rcases Nat.eq_zero_or_pos O with h0|h0
  ·omega
  ·have hg:(mS.take O)[O-1]?=some (mS.take O)[O-1]:=List.getElem?_eq_getElem (by omega);have:=(List.getElem?_eq_some_iff.1 (he _ _ hg)).1;omega
 have hm'len:m'.length=O+r.blks.length:=by
  rw[hblk,List.length_map,List.length_drop,←hr.len];omega
 -- the new map
 have lo:∀{p:Nat},p<O→(m'++mS.drop (O+r.blks.length))[p]?=mS[p]?:=by
  intro p hp;rw[List.getElem?_append_left (by omega)];have hg:(mS.take O)[p]?=some (mS.take O)[p]:=List.getElem?_eq_getElem (by omega);have h1:=he _ _ hg;rw[h1,←hg,List.getElem?_take,if_pos hp]
 have mid:∀{p:Nat},p<O+r.blks.length→(m'++mS.drop (O+r.blks.length))[p]?=m'[p]?:=by
  intro p hp;rw[List.getElem?_append_left (by omega)]
 have hiP:∀{p:Nat},O+r.blks.length≤p→(m'++mS.drop (O+r.blks.length))[p]?=mS[p]?:=by
  intro p hp;rw[List.getElem?_append_right (by omega),List.getElem?_drop];congr 1;omega
 have hout:∀{p:Nat} {e:MB},mS[p]?=some e→e.hole=false→(m'++mS.drop (O+r.blks.length))[p]?=some e:=by
  intro p e hp hh;rcases Nat.lt_or_ge p O with h1|h1
  ·rw[lo h1];exact hp
  ·rcases Nat.lt_or_ge p (O+r.blks.length)with h2|h2
   ·have:=hI.todo i r hi hS (p-O) (by omega);rw[hO]at this;have hpe:O+(p-O)=p:=by omega
    rw[hpe,hp]at this;cases this;simp[hole]at hh
   ·rw[hiP h2];exact hp
 have hax:∀k,AExt (mS.take k) ((m'++mS.drop (O+r.blks.length)).take k):=by
  intro k b e hb;have h1:=bz hb;have h2:=fi hb;rw[List.getElem?_take]at h1;split at h1
  ·rename_i hk;refine iC ?_ h2;rw[List.getElem?_take,if_pos hk];exact hout h1 h2
  ·cases h1
 have htake:(m'++mS.drop (O+r.blks.length)).take (O+r.blks.length)=m':=by
  rw[←hm'len];exact List.take_left
 have hpos:∀{j:Nat} {r':Rec} {k:Nat},R[j]?=some r'→j≠i→k<r'.blks.length→(m'++mS.drop (O+r.blks.length))[st.length+lenR (R.take j)+k]?=mS[st.length+lenR (R.take j)+k]?:=by
  intro j r' k hj hne hk;rcases Nat.lt_trichotomy j i with h1|h1|h1
  ·refine lo ?_;have h2:=fa hj;have h3:=cL R (i:=j+1) (j:=i) (by omega);omega
  ·exact absurd h1 hne
  ·refine hiP ?_;have h3:=cL R (i:=i+1) (j:=j) (by omega);omega
 have hNlen:(m'++mS.drop (O+r.blks.length)).length=st.length+lenR R:=by
  rw[List.length_append,List.length_drop,hm'len,hI.len];rw[hI.len]at htot;omega
 generalize (m'++mS.drop (O+r.blks.length))=mN at*
 have hbw:Below w.heap.size w w':=hr.below;have livelt:∀{p:Nat} {b:Blk} {e:MB},ma st R S p b→b.live=true→mS[p]?=some e→e.blk<w.heap.size:=by
  intro p b e hb hl hp;rcases hb with hb|⟨j,r',k,h1,h2,h3,rfl⟩
  ·obtain⟨e',he',hok⟩:=hI.old.at hb;have:=hI.ext p e' he';rw[hp]at this;cases this;exact hok.lt hl
  ·obtain⟨e',he',hok⟩:=hI.done j r' h1 h2 k b h3;rw[hp]at he';cases he';exact hok.lt hl
 have newblk:∀{k:Nat} {b:Blk},r.blks[k]?=some b→∃c e,s2[O+k]?=some c∧b=c.keep∧m'[O+k]?=some e∧BlkOk w.heap.size m' w' e c:=by
  intro k b hb;rw[hblk,List.getElem?_map,List.getElem?_drop]at hb;cases hc:s2[O+k]? with
  |none=>simp[hc]at hb
  |some c=>
   simp only[hc,Option.map_some,ad]at hb;obtain⟨e,he',hok⟩:=hr.at hc;exact⟨c,e,rfl,hb.symm,he',hok⟩
 have stpos:∀{p:Nat},p<st.length→p<O:=fun{p} hp=>by omega
 refine⟨mN,fun b e hb=>iC (hout (bz hb) (fi hb)) (fi hb),fun p hp=>mid (by omega),?_⟩;refine⟨hNlen,?_,hI.old.later hbw,?_,?_,?_,?_,?_,?_,by cases r.dst<;>exact hI.defers⟩
 ·intro b e hb;have h1:=hI.ext b e hb;have h2:=(List.getElem?_eq_some_iff.1 hb).1;rw[lo (by rw[hI.old.len]at h2;omega)];exact h1
 ·-- done
  intro j r' hj hSj k b hb;have hk:k<r'.blks.length:=(List.getElem?_eq_some_iff.1 hb).1;by_cases hji:j=i
  ·subst hji;rw[hi]at hj;cases hj;obtain⟨c,e,h1,rfl,h3,h4⟩:=newblk hb;rw[hO,hO1,htake];exact⟨e,by rw[mid (by omega)];exact h3,(h4.keep).lower hI.old.base⟩
  ·obtain⟨e,h1,h2⟩:=hI.done j r' hj (hSj.resolve_right hji) k b hb;refine⟨e,by rw[hpos hj hji hk];exact h1,?_⟩;exact(h2.amono (hax _)).same fun hl=>hbw.block _ (h2.lt hl)
 ·-- todo
  intro j r' hj hSj k hk;have hji:j≠i:=fun e=>hSj (.inr e);rw[hpos hj hji hk];exact hI.todo j r' hj (fun h=>hSj (.inl h)) k hk
 ·-- two blocks are two
  have split:∀{p:Nat} {b:Blk},ma st R (fun j=>S j∨j=i) p b→(ma st R S p b∧mN[p]?=mS[p]?)∨(∃k,r.blks[k]?=some b∧p=O+k):=by
   intro p b hb;rcases hb with hb|⟨j,r',k,h1,h2,h3,rfl⟩
   ·exact .inl ⟨.inl hb,lo (stpos (List.getElem?_eq_some_iff.1 hb).1)⟩
   ·by_cases hji:j=i
    ·subst hji;rw[hi]at h1;cases h1;exact .inr ⟨k,h3,by omega⟩
    ·have hb2:ma st R S (st.length+lenR (R.take j)+k) b:=Or.inr ⟨j,r',k,h1,h2.resolve_right hji,h3,rfl⟩;have hk2:k<r'.blks.length:=(List.getElem?_eq_some_iff.1 h3).1;exact Or.inl ⟨hb2,hpos h1 hji hk2⟩
  have rwl:=rw_live;intro p p' b b' e e' hpp hb hrw hb' hlv hp hp';rcases split hb with⟨hb,hs⟩|⟨k,hk,rfl⟩
  ·rcases split hb' with⟨hb',hs'⟩|⟨k',hk',rfl⟩
   ·rw[hs]at hp;rw[hs']at hp';exact hI.inj p p' b b' e e' hpp hb hrw hb' hlv hp hp'
   ·rw[hs]at hp;have l1:=livelt hb (rwl _ hrw) hp;obtain⟨c,d,h1,rfl,h3,h4⟩:=newblk hk';rw[mid (by have:=(List.getElem?_eq_some_iff.1 hk').1;omega),h3]at hp';cases hp';have:=m8 h4 hlv;omega
  ·obtain⟨c,d,h1,rfl,h3,h4⟩:=newblk hk;rw[mid (by have:=(List.getElem?_eq_some_iff.1 hk).1;omega),h3]at hp;cases hp;rcases split hb' with⟨hb',hs'⟩|⟨k',hk',rfl⟩
   ·rw[hs']at hp';have l1:=livelt hb' hlv hp';have:=m8 h4 (rwl _ hrw);omega
   ·obtain⟨c',d',h1',rfl,h3',h4'⟩:=newblk hk';rw[mid (by have:=(List.getElem?_eq_some_iff.1 hk').1;omega),h3']at hp';cases hp';have r1:c.rw=true:=by
     cases c with
     |ro own cs=>cases own<;>simp[Blk.keep,Blk.rw]at hrw
     |_=>first|rfl|simp[Blk.keep,Blk.rw]at hrw
    have l1:c'.live=true:=by cases c'<;>first|rfl|simp[Blk.keep,Blk.live]at hlv
    exact hr.inj (O+k) (O+k') c c' _ _ hpp h1 r1 h1' l1 h3 h3'
 ·have:=hI.sz;cases r.dst<;>simp[Act.put,this]
 ·-- values
  intro j r' d hj hSj hd;by_cases hji:j=i
  ·subst hji;rw[hi]at hj;cases hj;rw[hO1,htake];refine⟨x,?_,hx⟩;have hdl:=(hds d hd).1;simp[Act.put,hd,hI.sz,hdl]
  ·obtain⟨y,h1,h2⟩:=hI.val j r' d hj (hSj.resolve_right hji) hd;refine⟨y,?_,bY (hax _) _ _ h2⟩;cases hrd:r.dst with
   |none=>exact h1
   |some d0=>
    have hne:d0≠d:=by
     intro e;subst e;exact hji (hdis j r' d0 hj hrd hd)
    simp only[Act.put,Array.getElem?_setIfInBounds];rw[if_neg hne];exact h1
 ·intro t v ht hv;obtain⟨y,h1,h2⟩:=hI.kept t v ht hv;refine⟨y,?_,h2⟩;cases hrd:r.dst with
  |none=>exact h1
  |some d0=>
   have hne:d0≠t:=fun e=>ht (e▸(hds d0 hrd).2);simp only[Act.put,Array.getElem?_setIfInBounds];rw[if_neg hne];exact h1
theorem ny:∀(R:List Rec) (i:Nat) (b:Blk),(gY R)[i]?=some b→∃j r q,R[j]?=some r∧r.blks[q]?=some b∧i=lenR (R.take j)+q
 |[],i,b,h=>by simp[gY]at h
 |r::s,i,b,h=>by
  simp only[gY]at h;rcases Nat.lt_or_ge i r.blks.length with hlt|hge
  ·rw[List.getElem?_append_left hlt]at h;exact⟨0,r,i,by simp,h,by simp[lenR]⟩
  ·rw[List.getElem?_append_right hge]at h;obtain⟨j,r',q,h1,h2,h3⟩:=ny s _ b h;exact⟨j+1,r',q,by simpa using h1,h2,by simp only[List.take_succ_cons,lenR];omega⟩
theorem nx:∀(R:List Rec),(gY R).length=lenR R
 |[]=>rfl
 |r::s=>by simp[gY,lenR,nx s]
theorem gC:∀(R:List Rec) (f:Fr),(fq f R).sz=f.sz∧(fq f R).defs=f.defs
 |[],f=>⟨rfl,rfl⟩
 |r::s,f=>by
  obtain⟨h1,h2⟩:=gC s (f.put r.dst r.v);simp only[fq];rw[h1,h2];cases hd:r.dst with
  |none=>exact⟨rfl,rfl⟩
  |some d=>unfold Fr.put;cases hb:Nat.blt d f.sz<;>simp[hb]
theorem jE:∀(R:List Rec) (f:Fr) (t:Nat) (v:V),(∀(j:Nat) (r:Rec) (d:Tmp),R[j]?=some r→r.dst=some d→d<f.sz)→(fq f R).T.get t=some v→
  (∃(j:Nat) (r:Rec),R[j]?=some r∧r.dst=some t∧v=r.v)∨(f.T.get t=some v∧∀(j:Nat) (r:Rec),R[j]?=some r→r.dst≠some t)
 |[],f,t,v,_,h=>.inr ⟨h,fun j r hj=>by simp at hj⟩
 |r::s,f,t,v,hd,h=>by
  simp only[fq]at h;have hsz:(f.put r.dst r.v).sz=f.sz:=by
   cases hdd:r.dst with
   |none=>rfl
   |some d=>unfold Fr.put;cases hb:Nat.blt d f.sz<;>simp[hb]
  rcases jE s _ t v (fun j r' d hj he=>by rw[hsz];exact hd (j+1) r' d (by simpa using hj) he) h with⟨j,r',h1,h2,h3⟩|⟨h1,h2⟩
  ·exact .inl ⟨j+1,r',by simpa using h1,h2,h3⟩
  ·cases hdd:r.dst with
   |none=>
    rw[hdd]at h1;refine .inr ⟨h1,fun j r' hj=>?_⟩;cases j with
    |zero=>simp only[bQ,ad]at hj;subst hj;rw[hdd];simp
    |succ j=>exact h2 j r' (by simpa using hj)
   |some d=>
    have hlt:=hd 0 r d (by simp) hdd;have hb:Nat.blt d f.sz=true:=ap hlt;have e1:f.put (some d) r.v=⟨f.sz,f.T.put d r.v,f.defs⟩:=by simp[Fr.put,hb]
    rw[hdd,e1]at h1;rcases Tr.get_put h1 with⟨rfl,rfl⟩|⟨hne,h1⟩
    ·exact .inl ⟨0,r,by simp,hdd,rfl⟩
    ·refine .inr ⟨h1,fun j r' hj=>?_⟩;cases j with
     |zero=>simp only[bQ,ad]at hj;subst hj;rw[hdd];exact fun e=>hne (Option.some.inj e).symm
     |succ j=>exact h2 j r' (by simpa using hj)
theorem Inv.all(hI:Inv B W0 m st f R dsts S a w mS)(hS:∀j,j<R.length→S j)(hd:∀(j:Nat) (r:Rec) (d:Tmp),R[j]?=some r→r.dst=some d→d<f.sz)(hds:∀t,t∈dsts→∃(j:Nat) (r:Rec),R[j]?=some r∧r.dst=some t):
  AOk mS (fq f R) a∧Rel B W0 mS (st++gY R) w:=by
 have hlt:∀{j:Nat} {r:Rec},R[j]?=some r→j<R.length:=fun h=>(List.getElem?_eq_some_iff.1 h).1;have full:∀{j:Nat} {r:Rec},R[j]?=some r→Ext (mS.take (st.length+lenR (R.take (j+1)))) mS:=by
  intro j r hj b e hb;rw[List.getElem?_take]at hb;split at hb
  ·exact hb
  ·cases hb
 constructor
 ·refine⟨⟨?_,fun t v hv=>?_⟩,?_⟩
  ·rw[(gC R f).1];exact hI.sz
  ·rcases jE R f t v hd hv with⟨j,r,h1,h2,rfl⟩|⟨h1,h2⟩
   ·obtain⟨x,hx,hr⟩:=hI.val j r t h1 (hS j (hlt h1)) h2;exact⟨x,hx,dB (full h1) _ _ hr⟩
   ·have:t∉dsts:=fun hm=>let ⟨j,r,g1,g2⟩:=hds t hm;h2 j r g1 g2;obtain⟨x,hx,hr⟩:=hI.kept t v this h1;exact⟨x,hx,dB hI.ext _ _ hr⟩
  ·rw[(gC R f).2];exact hI.defers.mono hI.ext
 ·have at':∀{p:Nat} {b:Blk},(st++gY R)[p]?=some b→ma st R S p b:=by
   intro p b hb;rcases Nat.lt_or_ge p st.length with h1|h1
   ·rw[List.getElem?_append_left h1]at hb;exact .inl hb
   ·rw[List.getElem?_append_right h1]at hb;obtain⟨j,r,q,g1,g2,g3⟩:=ny R _ b hb;exact .inr ⟨j,r,q,g1,hS j (hlt g1),g2,by omega⟩
  refine⟨by rw[hI.len,List.length_append,nx],hI.old.base,hI.old.below,fun p b e hb he=>?_,fun p p' b b' d d' hpp hb hrw hb' hlv hp hp'=>hI.inj p p' b b' d d' hpp (at' hb) hrw (at' hb') hlv hp hp',hI.old.glob⟩;rcases at' hb with h1|⟨j,r,k,h1,h2,h3,rfl⟩
  ·obtain⟨e',he',hok⟩:=hI.old.at h1;have:=hI.ext p e' he';rw[he]at this;cases this;exact hok.mono hI.ext
  ·obtain⟨e',he',hok⟩:=hI.done j r h1 h2 k b h3;rw[he]at he';cases he';exact hok.mono (full h1)
theorem dx{α:Type}(g:α→Option Tmp):∀{l:List α},dr (l.filterMap g)=true→∀(i j:Nat) (x y:α) (d:Tmp),l[i]?=some x→l[j]?=some y→g x=some d→g y=some d→i=j
 |[],_,i,j,x,y,d,h,_,_,_=>by simp at h
 |z::r,h,i,j,x,y,d,hi,hj,hx,hy=>by
  have mem:∀{k:Nat} {u:α},r[k]?=some u→g u=some d→d∈r.filterMap g:=fun hk hu=>List.mem_filterMap.2 ⟨_,List.mem_of_getElem? hk,hu⟩;have htl:dr (r.filterMap g)=true:=by
   cases hz:g z with
   |none=>simpa[List.filterMap_cons,hz]using h
   |some q=>rw[List.filterMap_cons,hz]at h;simp only[dr,af]at h;exact h.2
  have no:g z=some d→∀{k:Nat} {u:α},r[k]?=some u→g u=some d→False:=by
   intro hz k u hk hu;rw[List.filterMap_cons,hz]at h;simp only[dr,af,Bool.not_eq_true']at h;have:(r.filterMap g).any (Nat.beq d)=true:=List.any_eq_true.2 ⟨d,mem hk hu,Nat.beq_refl d⟩;rw[h.1]at this;cases this
  cases i with
  |zero=>
   cases j with
   |zero=>rfl
   |succ j=>simp only[bQ,ad,List.getElem?_cons_succ]at hi hj;subst hi;exact(no hx hj hy).elim
  |succ i=>
   cases j with
   |zero=>simp only[bQ,ad,List.getElem?_cons_succ]at hi hj;subst hj;exact(no hy hi hx).elim
   |succ j=>
    simp only[List.getElem?_cons_succ]at hi hj;exact congrArg (·+1) (dx g htl i j x y d hi hj hx hy)
theorem jb{id:Nat}{ops:Array Oper}{Q:Exit→Fr→St→Prop}(hm:P.follows .mixedOrders=true)(hc:a9 P call){f':Fr}{st':St}(h:ju P call ops f st=some (f',st'))(hq:Q .normal f' st'):
  CodeSat P ro (.region id ops true) f st Q:=by
 unfold ju at h;cases hb:((dr (b7 ops)&&(b7 ops).all (fun d=>Nat.blt d f.sz))&&dW ops)with
 |false=>rw[hb]at h;cases h
 |true=>
 rw[hb,ac]at h;simp only[af]at hb;obtain⟨⟨hdis,hall⟩,hnd⟩:=hb;split at h
 case h_2=>cases h
 rename_i R hR;cases h;obtain⟨_,hlen,hspec⟩:=lQ ops.toList [] R hR;simp only[List.length_nil,Nat.zero_add]at hlen hspec;have rec_of:∀{i:Nat} {o:Oper},ops[i]?=some o→∃r,R[i]?=some r∧j0 P call ops f st (b7 ops) (R.take i) o=some r:=fun ho=>hspec _ _ (by simpa using ho);have op_of:∀{i:Nat} {r:Rec},R[i]?=some r→∃o,ops[i]?=some o∧j0 P call ops f st (b7 ops) (R.take i) o=some r:=by
  intro i r hr;have hi:i<ops.toList.length:=hlen▸(List.getElem?_eq_some_iff.1 hr).1;have ho:ops.toList[i]?=some ops.toList[i]:=List.getElem?_eq_getElem hi;obtain⟨r',h1,h2⟩:=hspec i _ ho;rw[hr]at h1;cases h1;exact⟨_,by simp,h2⟩
 have dst_of:∀{i:Nat} {r:Rec},R[i]?=some r→∃o,ops[i]?=some o∧r.dst=o.dst:=fun hr=>let ⟨o,h1,h2⟩:=op_of hr;⟨o,h1,(ei h2).2.1⟩;have hdsz:∀(j:Nat) (r:Rec) (d:Tmp),R[j]?=some r→r.dst=some d→d<f.sz∧d∈b7 ops:=by
  intro j r d hj hd;obtain⟨o,h1,h2⟩:=dst_of hj;have hmem:d∈b7 ops:=List.mem_filterMap.2 ⟨o,List.mem_of_getElem? (by simpa using h1),h2▸hd⟩;exact⟨dt (List.all_eq_true.1 hall d hmem),hmem⟩
 have hdd:∀(i j:Nat) (r r':Rec) (d:Tmp),R[i]?=some r→R[j]?=some r'→r.dst=some d→r'.dst=some d→j=i:=by
  intro i j r r' d hi hj hd hd';obtain⟨o,h1,h2⟩:=dst_of hi;obtain⟨o',h1',h2'⟩:=dst_of hj;exact dx (fun o:Oper=>o.dst) hdis j i o' o d (by simpa using h1') (by simpa using h1) (h2'▸hd') (h2▸hd)
 -- what lies ahead of an operation has been carried out
 have closed:∀(S:Nat→Prop),(∀j o,ops[j]?=some o→S j→∀e∈o.after,Region.binds .any e=true→S e.on)→
   ∀(i:Nat) (r:Rec) (o:Oper),R[i]?=some r→ops[i]?=some o→(∀e∈o.after,Region.binds .any e=true→S e.on)→∀k,Nat.testBit r.anc k=true→S k:=by
  intro S hS i
  induction i using Nat.strongRecOn with
  |_ i ih=>
   intro r o hr ho hedge k hk;obtain⟨o',ho',hst⟩:=op_of hr;rw[ho]at ho';cases ho';obtain⟨hlt,_,hanc,_⟩:=ei hst;rw[hanc]at hk;obtain⟨e,he,hbe,hcase⟩:=ij hk;have he':e∈o.after:=by simpa using he
   have hel:=hlt e he' hbe;have hei:e.on<i:=by
    rw[List.length_take]at hel;omega
   rcases hcase with rfl|⟨r',hr',hk'⟩
   ·exact hedge e he' hbe
   ·rw[List.getElem?_take,if_pos hei]at hr';obtain⟨o2,ho2,_⟩:=op_of hr';exact ih e.on hei r' o2 hr' ho2 (hS e.on o2 ho2 (hedge e he' hbe)) k hk'
 intro B W0 m a w F hF hA hr;have hsize:ops.size=R.length:=by rw[hlen];simp
 -- whatever has been listed, the rest goes through
 have key:∀(fuel:Nat) (listed:Array Bool) (a:Act) (w:World) (mS:List MB),listed.size=ops.size→(∀j o,ops[j]?=some o→listed.getD j false=true→∀e∈o.after,Region.binds .any e=true→listed.getD e.on false=true)→
   Inv B W0 m st f R (b7 ops) (fun j=>listed.getD j false=true) a w mS→((List.range ops.size).filter (fun j=>!listed.getD j false)).length≤fuel→
   wpAnyIn F 0 P .any ops (Post B W0 m Q) fuel listed a w:=by
  intro fuel;have fin:∀(listed:Array Bool) (a:Act) (w:World) (mS:List MB),listed.size=ops.size→Inv B W0 m st f R (b7 ops) (fun j=>listed.getD j false=true) a w mS→Region.ready .any ops listed=[]→Post B W0 m Q .normal a w:=by
   intro listed a w mS hsz hI hrd;have hS:∀j,j<R.length→listed.getD j false=true:=by
    intro j
    induction j using Nat.strongRecOn with
    |_ j ih=>
     intro hj;cases hl:listed.getD j false with
     |true=>rfl
     |false=>
      exfalso;have hjo:ops[j]?=some ops[j]:=Array.getElem?_eq_getElem (by omega);obtain⟨r,hr,hst⟩:=rec_of hjo;obtain⟨hlt,_⟩:=ei hst;have:j∈Region.ready .any ops listed:=mem_ready.2 ⟨by
       rw[Array.getD_eq_getD_getElem?]at hl ⊢;rw[Array.getElem?_eq_getElem (by omega)]at hl ⊢;exact hl,_,hjo,fun e he hbe=>ih e.on (by have:=hlt e he hbe;rw[List.length_take]at this;omega) (by have:=hlt e he hbe;rw[List.length_take]at this;omega)⟩
      rw[hrd]at this;cases this
   obtain⟨h1,h2⟩:=hI.all hS (fun j r d hj hd=>(hdsz j r d hj hd).1) (fun t ht=>by
    obtain⟨o,ho,hdo⟩:=List.mem_filterMap.1 ht;obtain⟨j,hj⟩:=List.mem_iff_getElem?.1 ho;obtain⟨r,hr',hst⟩:=rec_of (i:=j) (by simpa using hj);exact⟨j,r,hr',by rw[(ei hst).2.1];exact hdo⟩)
   exact⟨mS,_,_,hI.ext,h1,h2,hq⟩
  induction fuel with
  |zero=>
   intro listed a w mS hsz hcl hI hcnt;have hrd:Region.ready .any ops listed=[]:=by
    rw[List.eq_nil_iff_forall_not_mem];intro j hj;obtain⟨h1,o,ho,_⟩:=mem_ready.1 hj;have hlt:j<ops.size:=(Array.getElem?_eq_some_iff.1 ho).1;have:j∈(List.range ops.size).filter (fun j=>!listed.getD j false):=by
     rw[List.mem_filter,List.mem_range];refine⟨hlt,?_⟩;rw[Array.getD_eq_getD_getElem?,Array.getElem?_eq_getElem (by omega)]at h1 ⊢;simpa using h1
    have hnil:=List.eq_nil_of_length_eq_zero (Nat.le_zero.1 hcnt);rw[hnil]at this;cases this
   exact⟨hrd,fin listed a w mS hsz hI hrd⟩
  |succ fuel ih=>
   intro listed a w mS hsz hcl hI hcnt;refine⟨fin listed a w mS hsz hI,fun i hi=>?_⟩;obtain⟨h1,o,ho,hedge⟩:=mem_ready.1 hi;have hlt:i<ops.size:=(Array.getElem?_eq_some_iff.1 ho).1;have hun:listed.getD i false=false:=by
    rw[Array.getD_eq_getD_getElem?,Array.getElem?_eq_getElem (by omega)]at h1 ⊢;exact h1
   obtain⟨r,hri,hst⟩:=rec_of ho;obtain⟨hlts,hdst,hanc,hcase⟩:=ei hst;have hancS:=closed (fun j=>listed.getD j false=true) hcl i r o hri ho hedge;obtain⟨hT,hrel⟩:=hI.look (i:=i) (anc:=r.anc) (by omega) hancS;have hget:∀j,(listed.setIfInBounds i true).getD j false=true↔(listed.getD j false=true∨j=i):=by
    intro j;simp only[Array.getD_eq_getD_getElem?,Array.getElem?_setIfInBounds];by_cases hji:i=j
    ·subst hji;simp[hsz,hlt]
    ·rw[if_neg hji];constructor
     ·exact fun h=>.inl h
     ·rintro(h|h)
      ·exact h
      ·exact absurd h.symm hji
   have next:∀(x:Value) (m':List MB) (s2:St) (w':World),Ext (mS.take (st.length+lenR (R.take i))) m'→real m' r.v=some x→Rel w.heap.size w m' s2 w'→r.blks=(s2.drop (st.length+lenR (R.take i))).map Blk.keep→
     wpAnyIn F 0 P .any ops (Post B W0 m Q) fuel (listed.setIfInBounds i true) (a.put o.dst x) w':=by
    intro x m' s2 w' e1 e2 e3 e4;obtain⟨mN,_,_,hN⟩:=hI.step hri (by rw[hun];simp) (fun j r' d hj hd hd'=>hdd i j r r' d hri hj hd hd') (fun d hd=>hdsz i r d hri hd) e1 e2 e3 e4;rw[hdst]at hN;refine ih _ _ _ mN (by simpa using hsz) ?_ ?_ ?_
    ·intro j o' hj hl e he hbe;rw[hget]at hl ⊢;rcases hl with hl|rfl
     ·exact .inl (hcl j o' hj hl e he hbe)
     ·rw[ho]at hj;cases hj;exact .inl (hedge e he hbe)
    ·have:(fun j=>(listed.setIfInBounds i true).getD j false=true)=(fun j=>listed.getD j false=true∨j=i):=funext fun j=>propext (hget j);rw[this];exact hN
    ·have hlt2:((List.range ops.size).filter (fun j=>!(listed.setIfInBounds i true).getD j false)).length<((List.range ops.size).filter (fun j=>!listed.getD j false)).length:=by
      have hsub:(List.range ops.size).filter (fun j=>!(listed.setIfInBounds i true).getD j false)=((List.range ops.size).filter (fun j=>!listed.getD j false)).filter (fun j=>j !=i):=by
       rw[List.filter_filter];apply List.filter_congr;intro j _;by_cases h3:j=i
       ·rw[(hget j).2 (.inr h3)];subst h3;simp
       ·cases h2:listed.getD j false with
        |true=>rw[(hget j).2 (.inl h2)];simp
        |false=>
         have h1:(listed.setIfInBounds i true).getD j false=false:=by
          cases h1:(listed.setIfInBounds i true).getD j false with
          |false=>rfl
          |true=>
            rcases(hget j).1 h1 with h|h
            ·rw[h2]at h;cases h
            ·exact absurd h h3
         rw[h1];simp[h3]
      rw[hsub];have hmem:i∈(List.range ops.size).filter (fun j=>!listed.getD j false):=by rw[List.mem_filter,List.mem_range];exact⟨hlt,by rw[hun];rfl⟩
      exact List.length_filter_lt_length_iff_exists.2 ⟨i,hmem,by simp⟩
     omega
   unfold wpOpIn;rw[ho];rcases hcase with⟨hg,hv,hbl⟩|⟨hg,v,s2,hop,hrv,hbl⟩
   ·have hlen2:(R.take i).length=i:=by rw[List.length_take];omega
    simp only
    rw[if_neg (by rw[eR hT hg];simp)];refine⟨fun g _=>hF.fn g,?_⟩;refine next undef _ _ w (Ext.refl _) (by rw[hv];rfl) hrel ?_
    rw[hbl,List.drop_eq_nil_of_le (by simp[ly])];rfl
   ·simp only
    rw[if_pos (eR hT hg)];refine opValC_upon (ops:=ops) hc hF hT hrel hop (cK hnd ho) ?_;intro x m' w' e1 e2 e3;exact next x m' s2 w' e1 (by rw[hrv];exact e2) e3 hbl
 refine wpIn_region_any hm (key ops.size (Array.replicate ops.size false) a _ (m++List.replicate (lenR R) hole) (by simp) ?_ ?_ ?_)
 ·intro j o hj hl;simp[Array.getD_eq_getD_getElem?,Array.getElem?_replicate]at hl;split at hl<;>simp at hl
 ·have hno:∀j,¬((Array.replicate ops.size false).getD j false=true):=by
   intro j hl;simp[Array.getD_eq_getD_getElem?,Array.getElem?_replicate]at hl;split at hl<;>simp at hl
  refine⟨by simp[hr.len],fun b e hb=>?_,hr.drew',fun j r _ hS=>absurd hS (hno j),fun j r hj _ k hk=>?_,?_,hA.tmps.1,fun j r d _ hS=>absurd hS (hno j),fun t v _ hv=>hA.tmps.2 t v hv,hA.defers⟩
  ·rw[List.getElem?_append_left (List.getElem?_eq_some_iff.1 hb).1];exact hb
  ·have h1:=fa hj;have h2:=cL R (i:=j+1) (j:=R.length) (by have:=(List.getElem?_eq_some_iff.1 hj).1;omega);rw[List.take_length]at h2;rw[List.getElem?_append_right (by rw[hr.len];omega),List.getElem?_replicate,if_pos (by rw[hr.len];omega)]
  ·intro i i' b b' e e' hii hb hrw hb' hlv hi hi';rcases hb with hb|⟨j,_,_,_,hS,_⟩
   ·rcases hb' with hb'|⟨j,_,_,_,hS,_⟩
    ·have l1:=(List.getElem?_eq_some_iff.1 hb).1;have l2:=(List.getElem?_eq_some_iff.1 hb').1;rw[List.getElem?_append_left (by rw[hr.len];exact l1)]at hi;rw[List.getElem?_append_left (by rw[hr.len];exact l2)]at hi';exact hr.inj i i' b b' e e' hii hb hrw hb' hlv hi hi'
    ·exact absurd hS (hno j)
   ·exact absurd hS (hno j)
 ·have:=List.length_filter_le (fun j=>!(Array.replicate ops.size false).getD j false) (List.range ops.size);simpa using this
end
end Go.Vm
namespace Go.Vm
variable [G:Glob] [Φ:Frz]
open Go.RowKit
def lr:Op→Bool
 |.move _=>true
 |.assign _=>true
 |.pick .. =>true
 |.build .. =>true
 |.binOp .. =>true
 |.unOp .. =>true
 |.slice _ _ _ _ none=>true
 |.field .. =>true
 |.fieldAddr .. =>true
 |.index .. =>true
 |.indexAddr .. =>true
 |.extract .. =>true
 |.call {callee:=.builtin .len,..}=>true
 |_=>false
theorem noMem_eq{P:Program}{st st':St}{ρ:Operand→Option V}{op:Op}(h:lr op=true):aT P st ρ op=aT P st' ρ op:=by
 unfold lr at h;split at h<;>first|rfl|cases h
structure RE where
 r:Rec
 eff:Bool
 sen:Bool
 mem:St
 mkr:Bool:=false
 lx:Bool:=false
 blk:Option Nat:=none
def am(l:List RE):List Rec:=l.map (·.r)
def subB(a b:Nat):Bool:=Nat.beq (a&&&b) a
theorem eX{a b k:Nat}(h:subB a b=true)(hk:Nat.testBit a k=true):Nat.testBit b k=true:=by
 have h:=aC h;rw[←h,Nat.testBit_and,af]at hk;exact hk.2
def lookB(P:Program)(op:Op):Bool:=match op with
 |.load .. =>true
 |.convert .. =>true
 |_=>false
mutual
theorem iF(k:Nat):∀v:V,(v.shift k).flat=v.flat
 |.ptr _ _|.slice ..|.yield _|.map _|.bool _|.int _ _|.str _|.nilPtr|.nilSlice|.nilFunc|.nilIface|.nilMap|.gp _ _|.lst ..|.lptr ..|.nos .. =>rfl
 |.func fn fs cs=>by simp only[V.shift,V.flat,ej k fs,ej k cs]
 |.iface t v=>by simp only[V.shift,V.flat,iF k v]
 |.agg cs=>by simp only[V.shift,V.flat,ej k cs]
 |.tuple cs=>by simp only[V.shift,V.flat,ej k cs]
theorem ej(k:Nat):∀l:List V,ax (aa k l)=ax l
 |[]=>rfl
 |v::r=>by simp only[aa,ax,iF k v,ej k r]
end
def lh(T:Nat→Option V)(op:Op)(v:V):Bool:=match op with
 |.call {callee:=.value x,args,argTypes}=>match ev T x,evL (ev T) args.toList with
  |some (.func (.func g) fs cs),some as=>ax (fs++as++cs)&&v.flat
  |_,_=>false
 |_=>false
theorem pcall_any{P:Program}{call:Call}{T:Nat→Option V}{op:Op}{v:V}{cur cur':St}(h:cj P call T cur op=some (v,cur'))(hp:lh T op v=true)(mem:St):cj P call T mem op=some (v,mem):=by
 unfold lh at hp;split at hp
 ·rename_i x args ats;split at hp
  ·rename_i g fs cs as hx has;rw[af]at hp;have he:∀m:St,dI P m (ev T) (.call {callee:=.value x,args,argTypes:=ats})=none:=fun m=>rfl;have hq:∀m m':St,aT P m (ev T) (.call {callee:=.value x,args,argTypes:=ats})=aT P m' (ev T) (.call {callee:=.value x,args,argTypes:=ats}):=fun m m'=>by cases x<;>rfl
   unfold cj at h ⊢;rw[hq mem cur];cases hc:aT P cur (ev T) (.call {callee:=.value x,args,argTypes:=ats})with
   |some u=>rw[hc]at h;cases h;rfl
   |none=>
    rw[hc]at h;simp only[he,hx,has]at h ⊢;cases hpl:bi P g with
    |false=>rw[hpl]at h;cases h
    |true=>
     rw[hpl,ac]at h;rw[ac];unfold iW at h ⊢;rw[hp.1,ac]at h ⊢;cases hcall:call (.fn g) (fs++as++cs) []with
     |none=>rw[hcall]at h;cases h
     |some r=>
      obtain⟨u,s2⟩:=r;rw[hcall]at h;simp only at h ⊢;cases hu:u.flat with
      |true=>rw[hu,ac]at h;cases h;rfl
      |false=>
       rw[hu,ai]at h;cases h;exfalso;have:(u.shift cur.length).flat=u.flat:=iF _ u;rw[this,hu]at hp;exact absurd hp.2 (by simp)
  ·cases hp
 ·cases hp
def nY:Option V→Option V
 |some v=>bif v.plain then some v else none
 |none=>none
theorem gD{o:Option V}{v:V}(h:nY o=some v):o=some v∧v.plain=true:=by
 unfold nY at h;split at h
 ·rename_i u;cases hp:u.plain with
  |true=>rw[hp,ac]at h;cases h;exact⟨rfl,hp⟩
  |false=>rw[hp]at h;cases h
 ·cases h
def i9(P:Program)(call:Call)(T:Nat→Option V)(cur:St)(op:Op):Option V:=match op with
 |.call {callee:=.value x,args,argTypes}=>match ev T x,evL (ev T) args.toList with
  |some (.func (.func g) fs cs),some as=>bif ax (fs++as++cs)then none else bif bi P g then nY (en call g (fs++as++cs) cur)else none
  |_,_=>none
 |_=>none
def VSpec(P:Program)(call:Call)(T:Nat→Option V)(mem:St)(op:Op)(v:V)(mem':St):Prop:=
 cj P call T mem op=some (v,mem')∨(mem'=mem∧i9 P call T mem op=some v)
def jW(ops:Array Oper)(i:Nat):List Tmp:=ops.toList.filterMap fun o=>bif o.after.toList.any (fun e=>Region.binds .any e&&Nat.beq e.on i)then none else o.dst
def lA:Op→Bool
 |.alloc _=>true
 |.box .. =>true
 |.makeSlice .. =>true
 |.buildSlice .. =>true
 |_=>false
def isApp(cur:St):St→Bool
 |cur'=>Nat.beq cur'.length (cur.length+1)
def loadB(T:Nat→Option V):Op→Option (TypeId×Nat×Nat)
 |.load t x=>match ev T x with
  |some (.ptr b off)=>some (t,b,off)
  |_=>none
 |_=>none
def wrB(T:Nat→Option V)(n:Nat):Op→Option Nat
 |.store _ x _=>match ev T x with
  |some (.ptr b _)=>some b
  |_=>none
 |.call {callee:=.builtin .append,args,argTypes:=_}=>match evL (ev T) args.toList with
  |some (.slice b ..::_)=>some b
  |some (.nilSlice::_)=>some n
  |_=>none
 |_=>none
def ordL(b:Nat)(anc:Nat):Nat→List RE→Bool
 |_,[]=>true
 |k,x::r=>(!(x.eff&&!x.mkr)||(Nat.testBit anc k||match x.blk with
  |some c=>!Nat.beq c b
  |none=>false))&&ordL b anc (k+1) r
theorem mV{b:Nat}{anc:Nat}:∀{l:List RE} {k:Nat},ordL b anc k l=true→∀q y,l[q]?=some y→y.eff=true→y.mkr=false→Nat.testBit anc (k+q)=true∨∃c,y.blk=some c∧c≠b
 |[],k,_,q,y,h,_,_=>by simp at h
 |x::r,k,h,q,y,hq,he,hm=>by
  simp only[ordL,af]at h;cases q with
  |zero=>
   simp only[bQ,ad]at hq;subst hq;have h1:=h.1;rw[he,hm]at h1;simp only[Bool.not_false,Bool.and_self,Bool.not_true,Bool.false_or,Bool.or_eq_true]at h1;rcases h1 with h1|h1
   ·exact .inl (by simpa using h1)
   ·split at h1
    ·rename_i c hc;exact .inr ⟨c,hc,fun e=>by subst e;simp at h1⟩
    ·cases h1
  |succ q=>
   have:=mV h.2 q y (by simpa using hq) he hm;rwa [show k+1+q=k+(q+1) by omega]at this
def ordW(w:Option Nat)(anc:Nat):Nat→List RE→Bool
 |_,[]=>true
 |k,x::r=>(!x.lx||(Nat.testBit anc k||match w,x.blk with
  |some c,some b=>!Nat.beq c b
  |_,_=>false))&&ordW w anc (k+1) r
theorem mT{w:Option Nat}{anc:Nat}:∀{l:List RE} {k:Nat},ordW w anc k l=true→∀q y,l[q]?=some y→y.lx=true→Nat.testBit anc (k+q)=true∨∃c b,w=some c∧y.blk=some b∧c≠b
 |[],k,_,q,y,h,_=>by simp at h
 |x::r,k,h,q,y,hq,he=>by
  simp only[ordW,af]at h;cases q with
  |zero=>
   simp only[bQ,ad]at hq;subst hq;have h1:=h.1;rw[he]at h1;simp only[Bool.not_true,Bool.false_or,Bool.or_eq_true]at h1;rcases h1 with h1|h1
   ·exact .inl (by simpa using h1)
   ·split at h1
    ·rename_i c b hb;exact .inr ⟨c,b,rfl,hb,fun e=>by subst e;simp at h1⟩
    ·cases h1
  |succ q=>
   have:=mT h.2 q y (by simpa using hq) he;rwa [show k+1+q=k+(q+1) by omega]at this
def ltOp(T:Nat→Option V)(n:Nat):Op→Bool
 |.call {callee:=.value x,args,argTypes:=_}=>match ev T x,evL (ev T) args.toList with
  |some (.func _ fs cs),some as=>ltL n (fs++as++cs)
  |_,_=>false
 |_=>false
def ordS(anc:Nat):Nat→List RE→Bool
 |_,[]=>true
 |k,x::r=>(Nat.testBit anc k||(!(x.sen&&!x.eff)||x.mkr))&&ordS anc (k+1) r
theorem mU{anc:Nat}:∀{l:List RE} {k:Nat},ordS anc k l=true→∀q y,l[q]?=some y→y.sen=true→y.eff=false→Nat.testBit anc (k+q)=true∨y.mkr=true
 |[],k,_,q,y,h,_,_=>by simp at h
 |x::r,k,h,q,y,hq,hs,he=>by
  simp only[ordS,af]at h;cases q with
  |zero=>
   simp only[bQ,ad]at hq;subst hq;rw[hs,he]at h;simpa using h.1
  |succ q=>
   simp only[List.getElem?_cons_succ]at hq;have:=mU h.2 q y hq hs he;rwa [show k+1+q=k+(q+1) by omega]at this
def fe(P:Program)(call:Call)(ops:Array Oper)(f:Fr)(dsts:Nat→List Tmp):List Oper→List RE→St→Nat→Nat→Nat→Nat→Option (List RE×St)
 |[],recs,cur,_,_,_,_=>some (recs,cur)
 |o::r,recs,cur,em,sm,wm,lm=>
  bif o.after.toList.all (fun e=>!Region.binds .any e||Nat.blt e.on recs.length)then
   match de ops (aU f (dsts recs.length) (aB (am recs) o.after.toList) (am recs)) o with
   |some false=>fe P call ops f dsts r (recs++[⟨⟨o.dst,.tuple [],(aB (am recs) o.after.toList),[]⟩,false,false,cur,false,false,none⟩]) cur em sm wm lm
   |some true=>bif lr o.op then
     match aT P cur (ev (aU f (dsts recs.length) (aB (am recs) o.after.toList) (am recs))) o.op with
     |some v=>fe P call ops f dsts r (recs++[⟨⟨o.dst,v,(aB (am recs) o.after.toList),[]⟩,false,false,cur,false,false,none⟩]) cur em sm wm lm
     |none=>none
    else match loadB (aU f (dsts recs.length) (aB (am recs) o.after.toList) (am recs)) o.op with
    |some (t,b,off)=>match e9 P cur t b off with
     |some v=>bif subB wm (aB (am recs) o.after.toList)||ordL b (aB (am recs) o.after.toList) 0 recs then fe P call ops f dsts r (recs++[⟨⟨o.dst,v,(aB (am recs) o.after.toList),[]⟩,false,false,cur,false,true,some b⟩]) cur em sm wm (lm|||1<<<recs.length)else none
     |none=>none
    |none=>bif lookB P o.op then
     match aT P cur (ev (aU f (dsts recs.length) (aB (am recs) o.after.toList) (am recs))) o.op with
     |some v=>bif subB em (aB (am recs) o.after.toList)then fe P call ops f dsts r (recs++[⟨⟨o.dst,v,(aB (am recs) o.after.toList),[]⟩,false,true,cur,false,false,none⟩]) cur em (sm|||1<<<recs.length) wm lm else none
     |none=>none
    else match i9 P call (aU f (dsts recs.length) (aB (am recs) o.after.toList) (am recs)) cur o.op with
    |some v=>bif subB em (aB (am recs) o.after.toList)then fe P call ops f dsts r (recs++[⟨⟨o.dst,v,(aB (am recs) o.after.toList),[]⟩,false,true,cur,ltOp (aU f (dsts recs.length) (aB (am recs) o.after.toList) (am recs)) cur.length o.op,false,none⟩]) cur em (sm|||1<<<recs.length) wm lm else none
    |none=>match cj P call (aU f (dsts recs.length) (aB (am recs) o.after.toList) (am recs)) cur o.op with
     |some (v,cur')=>bif lh (aU f (dsts recs.length) (aB (am recs) o.after.toList) (am recs)) o.op v then fe P call ops f dsts r (recs++[⟨⟨o.dst,v,(aB (am recs) o.after.toList),[]⟩,false,false,cur,false,false,none⟩]) cur em sm wm lm
      else bif lA o.op&&isApp cur cur' then(bif subB sm (aB (am recs) o.after.toList)||(subB em (aB (am recs) o.after.toList)&&ordS (aB (am recs) o.after.toList) 0 recs)then fe P call ops f dsts r (recs++[⟨⟨o.dst,v,(aB (am recs) o.after.toList),[]⟩,true,true,cur,true,false,none⟩]) cur' (em|||1<<<recs.length) (sm|||1<<<recs.length) wm lm else none)
       else bif subB sm (aB (am recs) o.after.toList)then(bif subB lm (aB (am recs) o.after.toList)||ordW (wrB (aU f (dsts recs.length) (aB (am recs) o.after.toList) (am recs)) cur.length o.op) (aB (am recs) o.after.toList) 0 recs then fe P call ops f dsts r (recs++[⟨⟨o.dst,v,(aB (am recs) o.after.toList),[]⟩,true,true,cur,false,false,wrB (aU f (dsts recs.length) (aB (am recs) o.after.toList) (am recs)) cur.length o.op⟩]) cur' (em|||1<<<recs.length) (sm|||1<<<recs.length) (wm|||1<<<recs.length) lm else none)else none
     |none=>none
   |none=>none
  else none
def ib(P:Program)(call:Call)(ops:Array Oper)(f:Fr)(st:St):Option (Fr×St):=
 bif (dr (b7 ops)&&(b7 ops).all (fun d=>Nat.blt d f.sz))&&dW ops then
  match fe P call ops f (jW ops) ops.toList [] st 0 0 0 0 with
  |some (recs,fin)=>some (fq f (am recs),fin)
  |none=>none
 else none
section
variable {P:Program} {call:Call} {ro:Option Nat} {f:Fr} {st:St} {B:Nat} {W0 w w':World} {m:List MB}
def aN(R:List RE)(fin:St)(j:Nat):St:=match R[j]? with
 |some x=>x.mem
 |none=>fin
theorem maker_app{T:Nat→Option V}{op:Op}{v:V}{cur cur':St}(hm:lA op=true)(h:cj P call T cur op=some (v,cur'))(hl:isApp cur cur'=true):∃k,cur'=cur++[k]:=by
 have hne:cur'≠cur:=by
  rintro rfl;have:=aC hl;omega
 unfold lA at hm;split at hm
 ·simp only[cj,aT,dI]at h;split at h
  ·rename_i r hr;cases h;unfold oK at hr;split at hr<;>first|(cases hr;exact⟨_,rfl⟩)|cases hr
  ·cases h
 ·simp only[cj,aT,dI]at h;split at h
  ·rename_i r hr;cases h;split at hr
   ·unfold boxV at hr;cases hr;exact⟨_,rfl⟩
   ·cases hr
  ·cases h
 ·simp only[cj,aT,dI]at h;split at h
  ·rename_i r hr;cases h;split at hr
   ·unfold mZ at hr
    (repeat' split at hr)<;>first|(cases hr;exact⟨_,rfl⟩)|cases hr
   ·cases hr
  ·cases h
 ·simp only[cj,aT,dI]at h;split at h
  ·rename_i r hr;cases h;split at hr
   ·unfold dM at hr
    (repeat' split at hr)<;>first|(cases hr;exact⟨_,rfl⟩)|(cases hr;exact absurd rfl hne)|cases hr
   ·cases hr
  ·cases h
 ·cases hm
theorem lF{T:Nat→Option V}{op:Op}{t:TypeId}{b off:Nat}(h:loadB T op=some (t,b,off)):∃x,op=.load t x∧ev T x=some (.ptr b off):=by
 unfold loadB at h;split at h
 ·rename_i t' x;split at h
  ·rename_i b' off' hx;cases h;exact⟨x,rfl,hx⟩
  ·cases h
 ·cases h
theorem store_keep{P:Program}{st s1:St}{t:TypeId}{b off:Nat}{v:V}(hs:iD P st t (.ptr b off) v=some s1){c:Nat}(hne:c≠b):s1[c]?=st[c]?:=by
 unfold iD at hs;split at hs
 ·rename_i hp _;cases hp;split at hs
  ·split at hs
   ·cases hs;rw[List.getElem?_set_ne (fun e=>hne e.symm)]
   ·cases hs
  ·cases hs
 ·cases hs
theorem kf{P:Program}{st s1:St}{t:TypeId}{s x u:V}(hs:cM P st t s x=some (u,s1)){n:Nat}(hn:(∃off len ex c z,s=.slice n off len ex c z)∨(s=.nilSlice∧n=st.length)){c:Nat}(hne:c≠n)(hlt:c<st.length):s1[c]?=st[c]?:=by
 unfold cM at hs;rcases hn with⟨off,len,ex,cc,z,rfl⟩|⟨rfl,rfl⟩
 ·(repeat' split at hs)<;>first|(cases hs;done)|skip
  all_goals simp only[ad,Prod.mk.injEq]at hs
  all_goals obtain⟨-,rfl⟩:=hs
  all_goals first|rfl|rw[List.getElem?_append_left hlt]|skip
  all_goals injections
  all_goals subst_vars
  all_goals first|rw[List.getElem?_append_left (by simpa using hlt),List.getElem?_set_ne (fun e=>hne e.symm)]|rw[List.getElem?_set_ne (fun e=>hne e.symm)]
 ·(repeat' split at hs)<;>first|(cases hs;done)|skip
  all_goals simp only[ad,Prod.mk.injEq]at hs
  all_goals obtain⟨-,rfl⟩:=hs
  all_goals first|rfl|rw[List.getElem?_append_left hlt]|skip
  all_goals (injections;done)
theorem wrB_same{P:Program}{call:Call}{T:Nat→Option V}{op:Op}{v:V}{cur cur':St}{c:Nat}(h:cj P call T cur op=some (v,cur'))(hc:wrB T cur.length op=some c):∀b,b≠c→b<cur.length→cur'[b]?=cur[b]?:=by
 intro b hne hlt;unfold wrB at hc;split at hc
 ·split at hc
  ·rename_i t x y b' off hx;cases hc;simp only[cj,aT,dI,hx]at h;split at h
   ·rename_i r hr;cases h;split at hr
    ·split at hr
     ·rename_i st' hst;cases hr;rename_i pp vv hp hv _;cases hp;exact store_keep hst hne
     ·cases hr
    ·cases hr
   ·cases h
  ·cases hc
 ·rename_i args ats;have hp:aT P cur (ev T) (.call {callee:=.builtin .append,args,argTypes:=ats})=none:=rfl;simp only[cj,hp]at h;split at h
  ·rename_i r hr;cases h;simp only[dI]at hr;split at hr
   ·rename_i t t' s x h1 h2;split at hr
    ·rw[h2]at hc;split at hc
     ·rename_i b' _ _ _ _ _ _ hh;cases hc;simp only[ad,List.cons.injEq]at hh;exact kf hr (.inl ⟨_,_,_,_,_,hh.1⟩) hne hlt
     ·rename_i hh;cases hc;simp only[ad,List.cons.injEq]at hh;exact kf hr (.inr ⟨hh.1,rfl⟩) hne hlt
     ·cases hc
    ·cases hr
   ·cases hr
  ·cases h
 ·cases hc
def SpecE(P:Program)(call:Call)(ops:Array Oper)(f:Fr)(dsts:Nat→List Tmp)(R:List RE)(fin:St)(i:Nat)(o:Oper)(x:RE):Prop:=
 (∀e∈o.after,Region.binds .any e=true→e.on<i)∧x.r.dst=o.dst∧x.r.anc=aB (am (R.take i)) o.after.toList∧
 ((de ops (aU f (dsts i) x.r.anc (am (R.take i))) o=some false∧x.r.v=.tuple []∧x.eff=false∧x.sen=false∧aN R fin (i+1)=x.mem)∨
  (de ops (aU f (dsts i) x.r.anc (am (R.take i))) o=some true∧True∧(∀mem,cj P call (aU f (dsts i) x.r.anc (am (R.take i))) mem o.op=some (x.r.v,mem))∧x.eff=false∧x.sen=false∧aN R fin (i+1)=x.mem)∨
  (de ops (aU f (dsts i) x.r.anc (am (R.take i))) o=some true∧VSpec P call (aU f (dsts i) x.r.anc (am (R.take i))) x.mem o.op x.r.v (aN R fin (i+1))∧x.sen=true∧(x.eff=false→aN R fin (i+1)=x.mem)∧
    (x.eff=false→∀q y,q<i→R[q]?=some y→y.eff=true→Nat.testBit x.r.anc q=true)∧
    (x.eff=true→∀q y,q<i→R[q]?=some y→y.sen=true→Nat.testBit x.r.anc q=true∨(x.mkr=true∧y.eff=false∧y.mkr=true))∧
    (x.eff=true→x.mkr=false→∀q y,q<i→R[q]?=some y→y.lx=true→Nat.testBit x.r.anc q=true∨∃c b,x.blk=some c∧y.blk=some b∧c≠b)∧(x.eff=true→x.mkr=true→∃k,aN R fin (i+1)=x.mem++[k])∧
    (x.eff=true→∀c,x.blk=some c→∀b,b≠c→b<x.mem.length→(aN R fin (i+1))[b]?=x.mem[b]?)∧
    (x.eff=false→x.mkr=true→i9 P call (aU f (dsts i) x.r.anc (am (R.take i))) x.mem o.op=some x.r.v∧ltOp (aU f (dsts i) x.r.anc (am (R.take i))) x.mem.length o.op=true))∨
  (de ops (aU f (dsts i) x.r.anc (am (R.take i))) o=some true∧(∃t xo b off,o.op=.load t xo∧ev (aU f (dsts i) x.r.anc (am (R.take i))) xo=some (.ptr b off)∧e9 P x.mem t b off=some x.r.v∧x.blk=some b∧∀q y,q<i→R[q]?=some y→y.eff=true→y.mkr=false→Nat.testBit x.r.anc q=true∨∃c,y.blk=some c∧c≠b)∧x.lx=true∧x.eff=false∧x.sen=false∧aN R fin (i+1)=x.mem))
theorem bit_set{a n k:Nat}:Nat.testBit (a|||1<<<n) k=true↔(Nat.testBit a k=true∨n=k):=by
 rw[Nat.testBit_or,Nat.one_shiftLeft,Nat.testBit_two_pow];simp
theorem lR{ops:Array Oper}{dsts:Nat→List Tmp}:∀(l:List Oper) (recs:List RE) (cur:St) (em sm wm lm:Nat) (R:List RE) (fin:St),fe P call ops f dsts l recs cur em sm wm lm=some (R,fin)→
  (∀q y,recs[q]?=some y→y.eff=true→Nat.testBit em q=true)→(∀q y,recs[q]?=some y→y.sen=true→Nat.testBit sm q=true)→(∀q y,recs[q]?=some y→(y.eff&&!y.mkr)=true→Nat.testBit wm q=true)→(∀q y,recs[q]?=some y→y.lx=true→Nat.testBit lm q=true)→
  R.take recs.length=recs∧R.length=recs.length+l.length∧aN R fin recs.length=cur∧∀(j:Nat) (o:Oper),l[j]?=some o→∃x,R[recs.length+j]?=some x∧SpecE P call ops f dsts R fin (recs.length+j) o x
 |[],recs,cur,em,sm,wm,lm,R,fin,h,_,_,_,_=>by
  simp only[fe,ad,Prod.mk.injEq]at h;obtain⟨rfl,rfl⟩:=h;refine⟨by simp,by simp,by simp[aN],fun j o hj=>by simp at hj⟩
 |o::l,recs,cur,em,sm,wm,lm,R,fin,h,hem,hsm,hwm,hlm=>by
  simp only[fe]at h;cases hb:o.after.toList.all (fun e=>!Region.binds .any e||Nat.blt e.on recs.length)with
  |false=>rw[hb]at h;cases h
  |true=>
  rw[hb,ac]at h;have hedge:∀e∈o.after,Region.binds .any e=true→e.on<recs.length:=by
   intro e he hbe;have:=List.all_eq_true.1 hb e (by simpa using he);simp only[hbe,Bool.not_true,Bool.false_or]at this;exact dt this
  -- one step more
  have go:∀(x:RE) (cur':St) (em' sm' wm' lm':Nat),fe P call ops f dsts l (recs++[x]) cur' em' sm' wm' lm'=some (R,fin)→x.mem=cur→
    (∀q,Nat.testBit em q=true→Nat.testBit em' q=true)→(∀q,Nat.testBit sm q=true→Nat.testBit sm' q=true)→(∀q,Nat.testBit wm q=true→Nat.testBit wm' q=true)→(∀q,Nat.testBit lm q=true→Nat.testBit lm' q=true)→
    (x.eff=true→Nat.testBit em' recs.length=true)→(x.sen=true→Nat.testBit sm' recs.length=true)→((x.eff&&!x.mkr)=true→Nat.testBit wm' recs.length=true)→(x.lx=true→Nat.testBit lm' recs.length=true)→
    (R.take recs.length=recs→aN R fin (recs.length+1)=cur'→SpecE P call ops f dsts R fin recs.length o x)→
    R.take recs.length=recs∧R.length=recs.length+(o::l).length∧aN R fin recs.length=cur∧∀(j:Nat) (o':Oper),(o::l)[j]?=some o'→∃x,R[recs.length+j]?=some x∧SpecE P call ops f dsts R fin (recs.length+j) o' x:=by
   intro x cur' em' sm' wm' lm' hx hmem he1 he2 he3 he4 hf1 hf2 hf3 hf4 hspec;have ext:∀(g:RE→Bool) (mask mask':Nat),(∀q y,recs[q]?=some y→g y=true→Nat.testBit mask q=true)→(∀q,Nat.testBit mask q=true→Nat.testBit mask' q=true)→(g x=true→Nat.testBit mask' recs.length=true)→
     ∀q y,(recs++[x])[q]?=some y→g y=true→Nat.testBit mask' q=true:=by
    intro g mask mask' h1 h2 h3 q y hq hg;rcases Nat.lt_trichotomy q recs.length with hlt|heq|hgt
    ·rw[List.getElem?_append_left hlt]at hq;exact h2 q (h1 q y hq hg)
    ·subst heq;simp at hq;subst hq;exact h3 hg
    ·rw[List.getElem?_eq_none (by simp;omega)]at hq;cases hq
   obtain⟨h1,h2,h3,h4⟩:=lR l (recs++[x]) cur' em' sm' wm' lm' R fin hx (ext (·.eff) em em' hem he1 hf1) (ext (·.sen) sm sm' hsm he2 hf2) (ext (fun y=>y.eff&&!y.mkr) wm wm' hwm he3 hf3) (ext (·.lx) lm lm' hlm he4 hf4);have ht:R.take recs.length=recs:=by
    have:=congrArg (List.take recs.length) h1;rw[List.take_take,List.length_append]at this;simpa[Nat.min_eq_left]using this
   have hx':R[recs.length]?=some x:=by
    have:=congrArg (fun q:List RE=>q[recs.length]?) h1;simpa using this
   have h3:aN R fin (recs.length+1)=cur':=by simpa using h3
   refine⟨ht,by simp at h2;simp;omega,by unfold aN;rw[hx'];exact hmem,fun j o' hj=>?_⟩;cases j with
   |zero=>
    simp only[bQ,ad]at hj;subst hj;exact⟨x,by simpa using hx',hspec ht h3⟩
   |succ j=>
    simp only[List.getElem?_cons_succ]at hj;obtain⟨r,g1,g2⟩:=h4 j o' hj;have e:(recs++[x]).length+j=recs.length+(j+1):=by simp;omega
    rw[e]at g1 g2;exact⟨r,g1,g2⟩
  have id0:∀(m:Nat) (q:Nat),Nat.testBit m q=true→Nat.testBit m q=true:=fun _ _ h=>h;have up0:∀(m:Nat) (q:Nat),Nat.testBit m q=true→Nat.testBit (m|||1<<<recs.length) q=true:=fun _ _ h=>bit_set.2 (.inl h);have at0:∀(m:Nat),Nat.testBit (m|||1<<<recs.length) recs.length=true:=fun _=>bit_set.2 (.inr rfl);have before:∀{q:Nat} {y:RE},R.take recs.length=recs→q<recs.length→R[q]?=some y→recs[q]?=some y:=by
   intro q y ht hq hy;rw[←ht,List.getElem?_take,if_pos hq];exact hy
  split at h
  ·rename_i hg;refine go _ _ _ _ _ _ h rfl (id0 _) (id0 _) (id0 _) (id0 _) (fun h=>by cases h) (fun h=>by cases h) (fun h=>by cases h) (fun h=>by cases h) fun ht hm=>?_;exact⟨hedge,rfl,by rw[ht],.inl ⟨by rw[ht];exact hg,rfl,rfl,rfl,hm⟩⟩
  ·rename_i hg;cases hn:lr o.op with
   |true=>
    rw[hn,ac]at h;split at h
    ·rename_i v hv;refine go _ _ _ _ _ _ h rfl (id0 _) (id0 _) (id0 _) (id0 _) (fun h=>by cases h) (fun h=>by cases h) (fun h=>by cases h) (fun h=>by cases h) fun ht hm=>?_;exact⟨hedge,rfl,by rw[ht],.inr (.inl ⟨by rw[ht];exact hg,trivial,fun mem=>by rw[ht];unfold cj;rw[noMem_eq hn,hv],rfl,rfl,hm⟩)⟩
    ·cases h
   |false=>
    rw[hn,ai]at h;split at h
    ·rename_i t b off hld;split at h
     ·rename_i v hv;cases hs:(subB wm (aB (am recs) o.after.toList)||ordL b (aB (am recs) o.after.toList) 0 recs)with
      |false=>rw[hs]at h;cases h
      |true=>
       rw[hs,ac]at h;obtain⟨xo,hop,hxo⟩:=lF hld;refine go _ _ _ _ _ _ h rfl (id0 _) (id0 _) (id0 _) (up0 _) (fun h=>by cases h) (fun h=>by cases h) (fun h=>by cases h) (fun _=>at0 _) fun ht hm=>?_;refine⟨hedge,rfl,by rw[ht],.inr (.inr (.inr ⟨by rw[ht];exact hg,⟨t,xo,b,off,hop,by rw[ht];exact hxo,hv,rfl,fun q y hq hy hye hyk=>?_⟩,rfl,rfl,rfl,hm⟩))⟩;rw[Bool.or_eq_true]at hs;rcases hs with hs|hs
       ·exact .inl (eX hs (hwm q y (before ht hq hy) (by rw[hye,hyk];rfl)))
       ·have:=mV hs q y (before ht hq hy) hye hyk;rwa [Nat.zero_add]at this
     ·cases h
    cases hk:lookB P o.op with
    |true=>
     rw[hk,ac]at h;split at h
     ·rename_i v hv;cases hs:subB em (aB (am recs) o.after.toList)with
      |false=>rw[hs]at h;cases h
      |true=>
       rw[hs,ac]at h;refine go _ _ _ _ _ _ h rfl (id0 _) (up0 _) (id0 _) (id0 _) (fun h=>by cases h) (fun _=>at0 _) (fun h=>by cases h) (fun h=>by cases h) fun ht hm=>?_;refine⟨hedge,rfl,by rw[ht],.inr (.inr (.inl ⟨by rw[ht];exact hg,?_,rfl,fun _=>hm,?_,(fun h=>by cases h),(fun h=>by cases h),(fun h=>by cases h),(fun h=>by cases h),fun _ h=>by cases h⟩))⟩
       ·rw[ht,hm];left;unfold cj;simp only[hv]
       ·intro _ q y hq hy hye;exact eX hs (hem q y (before ht hq hy) hye)
     ·cases h
    |false=>
     rw[hk,ai]at h;split at h
     ·rename_i v hv;cases hs:subB em (aB (am recs) o.after.toList)with
      |false=>rw[hs]at h;cases h
      |true=>
       rw[hs,ac]at h;refine go _ _ _ _ _ _ h rfl (id0 _) (up0 _) (id0 _) (id0 _) (fun h=>by cases h) (fun _=>at0 _) (fun h=>by cases h) (fun h=>by cases h) fun ht hm=>?_;refine⟨hedge,rfl,by rw[ht],.inr (.inr (.inl ⟨by rw[ht];exact hg,?_,rfl,fun _=>hm,?_,(fun h=>by cases h),(fun h=>by cases h),(fun h=>by cases h),(fun h=>by cases h),fun _ hl=>⟨by rw[ht];exact hv,by rw[ht];exact hl⟩⟩))⟩
       ·rw[ht,hm];exact .inr ⟨rfl,hv⟩
       ·intro _ q y hq hy hye;exact eX hs (hem q y (before ht hq hy) hye)
     split at h
     ·rename_i v cur' hv;cases hpc:lh (aU f (dsts recs.length) (aB (am recs) o.after.toList) (am recs)) o.op v with
      |true=>
       rw[hpc,ac]at h;refine go _ _ _ _ _ _ h rfl (id0 _) (id0 _) (id0 _) (id0 _) (fun h=>by cases h) (fun h=>by cases h) (fun h=>by cases h) (fun h=>by cases h) fun ht hm=>?_;exact⟨hedge,rfl,by rw[ht],.inr (.inl ⟨by rw[ht];exact hg,trivial,fun mem=>by rw[ht];exact pcall_any hv hpc mem,rfl,rfl,hm⟩)⟩
      |false=>
      rw[hpc,ai]at h;cases hmk:(lA o.op&&isApp cur cur')with
      |true=>
       rw[hmk,ac]at h;rw[af]at hmk;cases hs:(subB sm (aB (am recs) o.after.toList)||(subB em (aB (am recs) o.after.toList)&&ordS (aB (am recs) o.after.toList) 0 recs))with
       |false=>rw[hs]at h;cases h
       |true=>
        rw[hs,ac]at h;refine go _ _ _ _ _ _ h rfl (up0 _) (up0 _) (id0 _) (id0 _) (fun _=>at0 _) (fun _=>at0 _) (fun h=>by cases h) (fun h=>by cases h) fun ht hm=>?_;refine⟨hedge,rfl,by rw[ht],.inr (.inr (.inl ⟨by rw[ht];exact hg,?_,rfl,(fun h=>by cases h),(fun h=>by cases h),?_,(fun _ h=>by cases h),(fun _ _=>?_),(fun _ c h=>by cases h),fun h=>by cases h⟩))⟩
        ·rw[ht,hm];exact .inl hv
        ·intro _ q y hq hy hye;rw[Bool.or_eq_true,af]at hs;rcases hs with hs|⟨hs1,hs2⟩
         ·exact .inl (eX hs (hsm q y (before ht hq hy) hye))
         ·cases hyf:y.eff with
          |true=>exact .inl (eX hs1 (hem q y (before ht hq hy) hyf))
          |false=>
           have:=mU hs2 q y (before ht hq hy) hye hyf;rw[Nat.zero_add]at this;exact this.imp id fun h=>⟨rfl,rfl,h⟩
        ·rw[hm];exact maker_app hmk.1 hv hmk.2
      |false=>
      rw[hmk,ai]at h;cases hs:subB sm (aB (am recs) o.after.toList)with
      |false=>rw[hs]at h;cases h
      |true=>
       rw[hs,ac]at h;cases hl:(subB lm (aB (am recs) o.after.toList)||ordW (wrB (aU f (dsts recs.length) (aB (am recs) o.after.toList) (am recs)) cur.length o.op) (aB (am recs) o.after.toList) 0 recs)with
       |false=>rw[hl]at h;cases h
       |true=>
        rw[hl,ac]at h;refine go _ _ _ _ _ _ h rfl (up0 _) (up0 _) (up0 _) (id0 _) (fun _=>at0 _) (fun _=>at0 _) (fun _=>at0 _) (fun h=>by cases h) fun ht hm=>?_;refine⟨hedge,rfl,by rw[ht],.inr (.inr (.inl ⟨by rw[ht];exact hg,?_,rfl,(fun h=>by cases h),(fun h=>by cases h),?_,?_,(fun _ h=>by cases h),?_,fun h=>by cases h⟩))⟩
        ·rw[ht,hm];exact .inl hv
        ·intro _ q y hq hy hye;exact .inl (eX hs (hsm q y (before ht hq hy) hye))
        ·intro _ _ q y hq hy hye;rw[Bool.or_eq_true]at hl;rcases hl with hl|hl
         ·exact .inl (eX hl (hlm q y (before ht hq hy) hye))
         ·have:=mT hl q y (before ht hq hy) hye;rwa [Nat.zero_add]at this
        ·intro _ c hc;rw[hm];exact wrB_same hv hc
     ·cases h
  ·cases h
theorem j5(hc:a9 P call){n:List MB}{mem:St}{T:Nat→Option V}{a:Act}{F:Fence}{Q:Exit→Act→World→Prop}{mF:List MB}(hF:FOk mF ro F)
  (hT:∀t v,T t=some v→∃x,a.tmps[t]?=some x∧real n v=some x)(hr:Rel B W0 n mem w){o:Oper}{v:V}{s2:St}(h:cj P call T mem o.op=some (v,s2))(hnd:∀c,o.op≠.defer c)
  {K:Act→World→Prop}(hK:∀x m' w',Ext n m'→real m' v=some x→Rel B W0 m' s2 w'→K (a.put o.dst x) w'):o.wpIn F 0 P a w K Q:=by
 have hρ:∀x v,ev T x=some v→real n v=some (a.eval x):=by
  intro x v hv;cases x with
  |tmp t=>
   obtain⟨y,h1,h2⟩:=hT t v hv;rw[h2];simp[Act.eval,Array.getD_eq_getD_getElem?,h1]
  |const c=>exact bS n hv
  |global g=>exact dE hv
  |func f=>simp only[ev,ad]at hv;subst hv;simp[real,ak,Act.eval]
 unfold cj at h;refine⟨fun g _=>hF.fn g,?_⟩;rw[Oper.semAt_eq _ _ _ hnd];split at h
 ·rename_i v' hv;cases h;obtain⟨x,h1,h2⟩:=eO hr hρ hv;rw[h2,Oper.uponIn_value];exact hK x n w (Ext.refl n) h1 hr
 ·split at h
  ·rename_i r hv;cases h;obtain⟨x,m',w',h1,h2,h3,h4⟩:=lT hr hρ hv;rcases h4 with h4|⟨h4,rfl⟩
   ·rw[h4,Oper.uponIn_value];exact hK x m' w' h1 h2 h3
   ·rw[h4,Oper.uponIn_skip];exact hK _ m' w' h1 h2 h3
  ·split at h
   ·rename_i x args ats ho;split at h
    ·rename_i g fs cs as hx has;cases hp:bi P g with
     |false=>rw[hp]at h;cases h
     |true=>
      rw[hp,ac]at h;have h1:=hρ _ _ hx;have h2:=df hρ has;simp only[real]at h1;split at h1
      ·rename_i rfs rcs hfs hcs;have hrun:(execOp a.eval o).run P w=.ok (.enter g (rfs++args.toList.map a.eval++rcs).toArray) w:=by
        simp only[execOp,ho,resolve,Sem.run_bind];rw[←Option.some.inj h1];simp only[Deferred.ofValue,Sem.run_pure,Result.andThen_ok,invoke];rw[cI hp];congr 2;apply Array.ext';simp
       have hcalls:=jX hc h B W0 n w _ (aG (aG hfs h2) hcs) hr;rw[hrun,Oper.uponIn_enter];refine hF.calls (hcalls.mono ?_);rintro e w' ⟨v',y,m',st',rfl,e1,e2,e3,e4⟩;cases e4;exact hK y m' w' e1 e2 e3
      ·cases h1
    ·rename_i l as hx has;have h1:=hρ _ _ hx;have h2:=df hρ has;simp only[real]at h1;split at h1
     ·rename_i e he;obtain⟨fn,tmps,assign,body,hy,hround⟩:=hc (.yld l) as mem _ h B W0 n w _ e h2 hr (bz he);have hrun:(execOp a.eval o).run P w=.ok (.round e.blk fn tmps assign body) w:=by
       simp only[execOp,ho,resolve,Sem.run_bind];rw[←Option.some.inj h1];simp only[Deferred.ofValue,Sem.run_pure,Result.andThen_ok,invoke];have:(#[]:Array Value)++args.map a.eval=(args.toList.map a.eval).toArray:=by apply Array.ext';simp
       rw[this];exact hy
      rw[hrun,Oper.uponIn_round];refine hF.round (hround.mono ?_);rintro e' w' ⟨v',y,m',st',rfl,e1,e2,e3,e4⟩;cases e4;exact hK y m' w' e1 e2 e3
     ·cases h1
    ·cases h
   ·cases h
theorem mq(hc:a9 P call){n:List MB}{mem:St}{T:Nat→Option V}{a:Act}{F:Fence}{Q:Exit→Act→World→Prop}{mF:List MB}(hF:FOk mF ro F)
  (hT:∀t v,T t=some v→∃x,a.tmps[t]?=some x∧real n v=some x)(hr:Rel B W0 n mem w){o:Oper}{v:V}{s2:St}(h:VSpec P call T mem o.op v s2)(hnd:∀c,o.op≠.defer c)
  {K:Act→World→Prop}(hK:∀x m' w',Ext n m'→real m' v=some x→Rel B W0 m' s2 w'→K (a.put o.dst x) w'):o.wpIn F 0 P a w K Q:=by
 rcases h with h|⟨rfl,h⟩
 ·exact j5 hc hF hT hr h hnd hK
 ·have hρ:∀x v,ev T x=some v→real n v=some (a.eval x):=by
   intro x v hv;cases x with
   |tmp t=>
    obtain⟨y,h1,h2⟩:=hT t v hv;rw[h2];simp[Act.eval,Array.getD_eq_getD_getElem?,h1]
   |const c=>exact bS n hv
   |global g=>exact dE hv
   |func f=>simp only[ev,ad]at hv;subst hv;simp[real,ak,Act.eval]
  unfold i9 at h;refine⟨fun g _=>hF.fn g,?_⟩;rw[Oper.semAt_eq _ _ _ hnd];split at h
  ·rename_i x args ats ho;split at h
   ·rename_i g fs cs as hx has;cases hfl:ax (fs++as++cs)with
    |true=>rw[hfl]at h;cases h
    |false=>
    rw[hfl,ai]at h;cases hp:bi P g with
    |false=>rw[hp]at h;cases h
    |true=>
     rw[hp,ac]at h;have h1:=hρ _ _ hx;have h2:=df hρ has;simp only[real]at h1;split at h1
     ·rename_i rfs rcs hfs hcs;have hrun:(execOp a.eval o).run P w=.ok (.enter g (rfs++args.toList.map a.eval++rcs).toArray) w:=by
       simp only[execOp,ho,resolve,Sem.run_bind];rw[←Option.some.inj h1];simp only[Deferred.ofValue,Sem.run_pure,Result.andThen_ok,invoke];rw[cI hp];congr 2;apply Array.ext';simp
      obtain⟨y,e1,e2⟩:=j6 hc (gD h).1 (aG (aG hfs h2) hcs) hr;rw[hrun,Oper.uponIn_enter];refine hF.calls ((e2 B W0 w hr).mono ?_);rintro e w' ⟨rfl,e3⟩;exact hK y n w' (Ext.refl n) e1 e3
     ·cases h1
   ·cases h
  ·cases h
theorem pure_upon{n:List MB}{mem:St}{T:Nat→Option V}{a:Act}{F:Fence}{Q:Exit→Act→World→Prop}{mF:List MB}(hF:FOk mF ro F)
  (hT:∀t v,T t=some v→∃x,a.tmps[t]?=some x∧real n v=some x)(hr:Rel B W0 n mem w){o:Oper}{v:V}(h:aT P mem (ev T) o.op=some v)(hnd:∀c,o.op≠.defer c)
  {K:Act→World→Prop}(hK:∀x,real n v=some x→K (a.put o.dst x) w):o.wpIn F 0 P a w K Q:=by
 have hρ:∀x v,ev T x=some v→real n v=some (a.eval x):=by
  intro x v hv;cases x with
  |tmp t=>
   obtain⟨y,h1,h2⟩:=hT t v hv;rw[h2];simp[Act.eval,Array.getD_eq_getD_getElem?,h1]
  |const c=>exact bS n hv
  |global g=>exact dE hv
  |func f=>simp only[ev,ad]at hv;subst hv;simp[real,ak,Act.eval]
 refine⟨fun g _=>hF.fn g,?_⟩;rw[Oper.semAt_eq _ _ _ hnd];obtain⟨x,h1,h2⟩:=eO hr hρ h;rw[h2,Oper.uponIn_value];exact hK x h1
theorem BlkOk.back{B B0:Nat}{m m2 m3:List MB}{w w':World}{e e0:MB}{c:Blk}(h:BlkOk B m2 w' e c)(h0:BlkOk B0 m w e0 c)(h2:AExt m m2)(h3:AExt m m3):BlkOk B m3 w' e c:=by
 cases c with
 |dead=>trivial
 |ro own cs=>
  obtain⟨a1,arr,t,fz,a2,a3⟩:=h;obtain⟨_,arr0,t0,fz0,_,b3⟩:=h0;refine⟨a1,arr,t,fz,a2,fun i v hv=>?_⟩;obtain⟨x,hx,hy⟩:=a3 i v hv;obtain⟨x0,hx0,_⟩:=b3 i v hv;have:=bY h2 v x0 hx0;rw[hx]at this;cases this;exact⟨x,bY h3 v x hx0,hy⟩
 |row cs t sz=>
  obtain⟨a1,a2,arr,xs,a3,a4,a5⟩:=h;obtain⟨_,_,arr0,xs0,_,b4,_⟩:=h0;have:=bB h2 cs xs0 b4;rw[a4]at this;cases this;exact⟨a1,a2,arr,xs,a3,bB h3 cs xs b4,a5⟩
 |defd=>exact h
 |mpu=>exact h
 |mp cs=>
  obtain⟨a1,es,c,xs,a2,a3,a4⟩:=h;obtain⟨_,es0,c0,xs0,_,b3,_⟩:=h0;have:=bB h2 cs xs0 b3;rw[a3]at this;cases this;exact⟨a1,es,c,xs,a2,bB h3 cs xs b3,a4⟩
 |sit s pos=>exact h
 |loop=>
  obtain⟨a1,fn,tmps,d,a2,a3,a4⟩:=h;obtain⟨_,fn0,tmps0,d0,b2,_,b4⟩:=h0;have:=h2 _ _ b2;rw[a2]at this;cases this;refine⟨a1,fn,tmps,d,h3 _ _ b2,a3,a4.1,fun t v hv=>?_⟩;obtain⟨x,hx,hy⟩:=a4.2 t v hv;obtain⟨x0,_,hy0⟩:=b4.2 t v hv;have:=bY h2 v x0 hy0;rw[hy]at this;cases this;exact⟨x,hx,bY h3 v x hy0⟩
theorem Rel.kept{B:Nat}{W0 w w':World}{mi m':List MB}{st M:St}(h:Rel B W0 mi st w)(h':Rel B W0 m' M w')(he:Ext mi m')(hM:∀b,b<st.length→M[b]?=st[b]?):Rel B W0 mi st w':=by
 have up:∀{i:Nat} {b:Blk},st[i]?=some b→M[i]?=some b:=fun{i b} hi=>(hM i (List.getElem?_eq_some_iff.1 hi).1).trans hi;exact⟨h.len,h'.base,h'.below,fun i b e hi he'=>BlkOk.back (h'.blk i b e (up hi) (he i e he')) (h.blk i b e hi he') he.a (fun _ _ h=>h),
  fun i j b c d e hij h1 h2 h3 h4 h5 h6=>h'.inj i j b c d e hij (up h1) h2 (up h3) h4 (he i d h5) (he j e h6),h'.glob⟩
theorem see_upon(hc:a9 P call){mi mS:List MB}{mem:St}{T:Nat→Option V}{a:Act}{F:Fence}{Q:Exit→Act→World→Prop}{mF:List MB}(hF:FOk mF ro F)
  (hT:∀t v,T t=some v→∃x,a.tmps[t]?=some x∧real mS v=some x)(hx:Ext mi mS)(hr:Rel B W0 mi mem w){o:Oper}{v:V}(h:i9 P call T mem o.op=some v)(hl:ltOp T mem.length o.op=true)(hnd:∀c,o.op≠.defer c)
  {K:Act→World→Prop}(hK:∀x w',real mS v=some x→Below w.heap.size w w'→GOk w'.heap.size w'→K (a.put o.dst x) w'):o.wpIn F 0 P a w K Q:=by
 have hρ:∀x v,ev T x=some v→real mS v=some (a.eval x):=by
  intro x v hv;cases x with
  |tmp t=>
   obtain⟨y,h1,h2⟩:=hT t v hv;rw[h2];simp[Act.eval,Array.getD_eq_getD_getElem?,h1]
  |const c=>exact bS mS hv
  |global g=>exact dE hv
  |func f=>simp only[ev,ad]at hv;subst hv;simp[real,ak,Act.eval]
 unfold i9 at h;refine⟨fun g _=>hF.fn g,?_⟩;rw[Oper.semAt_eq _ _ _ hnd];split at h
 ·rename_i x args ats ho;split at h
  ·rename_i g fs cs as hxx has;have hlt:ltL mi.length (fs++as++cs)=true:=by
    rw[ho]at hl;simp only[ltOp,hxx,has]at hl;rw[hr.len];exact hl
   cases hfl:ax (fs++as++cs)with
   |true=>rw[hfl]at h;cases h
   |false=>
   rw[hfl,ai]at h;cases hp:bi P g with
   |false=>rw[hp]at h;cases h
   |true=>
    rw[hp,ac]at h;have h1:=hρ _ _ hxx;have h2:=df hρ has;simp only[real]at h1;split at h1
    ·rename_i rfs rcs hfs hcs;have hrun:(execOp a.eval o).run P w=.ok (.enter g (rfs++args.toList.map a.eval++rcs).toArray) w:=by
      simp only[execOp,ho,resolve,Sem.run_bind];rw[←Option.some.inj h1];simp only[Deferred.ofValue,Sem.run_pure,Result.andThen_ok,invoke];rw[cI hp];congr 2;apply Array.ext';simp
     obtain⟨y,e1,e2⟩:=lD hc (gD h).1 (gD h).2 (fL hx _ _ hlt (aG (aG hfs h2) hcs));rw[hrun,Oper.uponIn_enter];refine hF.calls ((e2 B W0 w hr).mono ?_);rintro e w' ⟨rfl,e3,e4⟩;exact hK y w' (e1 mS) e3 e4
    ·cases h1
  ·cases h
 ·cases h
structure InvE (B:Nat) (W0:World) (m:List MB) (f:Fr) (R:List RE) (fin:St) (S:Nat→Prop) (a:Act) (w:World) (mS:List MB):Prop where
 ext:Ext m mS
 cut:∀j,j≤R.length→(∀q y,R[q]?=some y→y.eff=true→(S q↔q<j))→Rel B W0 mS (aN R fin j) w
 size:a.tmps.size=f.sz
 done:∀j x d,R[j]?=some x→S j→x.r.dst=some d→∃y,a.tmps[d]?=some y∧real mS x.r.v=some y
 rest:∀t v,(∀j x,R[j]?=some x→S j→x.r.dst≠some t)→f.T.get t=some v→∃x,a.tmps[t]?=some x∧real mS v=some x
 defs:DOk mS f.defs a.defers
 gok:GOk w.heap.size w
 sees:∀i x,R[i]?=some x→¬S i→x.sen=true→x.eff=false→(∀q z,R[q]?=some z→z.eff=true→q<i→S q)→∃mi,Ext mi mS∧Rel B W0 mi x.mem w
theorem frameR_look{dsts:List Tmp}{anc:Nat}{recs:List Rec}{t:Nat}{v:V}(h:aU f dsts anc recs t=some v):
  (∃j r,recs[j]?=some r∧r.dst=some t∧Nat.testBit anc j=true∧v=r.v)∨(t∉dsts∧f.T.get t=some v):=by
 unfold aU at h;cases hb:dsts.any (Nat.beq t)with
 |true=>
  rw[hb,ac]at h;obtain⟨j,r,h1,h2,h3,h4⟩:=kQ anc t recs 0 v h;exact .inl ⟨j,r,h1,h2,by simpa using h3,h4⟩
 |false=>
  rw[hb,ai]at h;refine .inr ⟨fun hm=>?_,h⟩;have:=List.any_eq_false.1 hb t hm;exact this (Nat.beq_refl t)
theorem db{R:List RE}{fin:St}(hconst:∀i x,R[i]?=some x→x.eff=false→aN R fin (i+1)=aN R fin i){j:Nat}:∀(n:Nat),j+n≤R.length→(∀q x,R[q]?=some x→x.eff=true→¬(j≤q∧q<j+n))→aN R fin (j+n)=aN R fin j
 |0,_,_=>rfl
 |n+1,hl,hn=>by
  have h1:=db hconst n (by omega) fun q x hx he hq=>hn q x hx he ⟨hq.1,by omega⟩;obtain⟨x,hx⟩:∃x,R[j+n]?=some x:=⟨_,List.getElem?_eq_getElem (by omega)⟩;have he:x.eff=false:=by
   cases he:x.eff with
   |false=>rfl
   |true=>exact absurd ⟨by omega,by omega⟩ (hn _ x hx he)
  rw[←h1];exact hconst (j+n) x hx he
theorem mY{R:List RE}{fin:St}(hconst:∀i x,R[i]?=some x→x.eff=false→aN R fin (i+1)=aN R fin i)(happ:∀i x,R[i]?=some x→x.eff=true→x.mkr=true→∃k,aN R fin (i+1)=aN R fin i++[k]){j:Nat}:∀(n:Nat),j+n≤R.length→(∀q x,R[q]?=some x→j≤q→q<j+n→x.eff=true→x.mkr=true)→∃s,aN R fin (j+n)=aN R fin j++s
 |0,_,_=>⟨[],by simp⟩
 |n+1,hl,hn=>by
  obtain⟨s,hs⟩:=mY hconst happ n (by omega) fun q x hx h1 h2 he=>hn q x hx h1 (by omega) he;obtain⟨x,hx⟩:∃x,R[j+n]?=some x:=⟨_,List.getElem?_eq_getElem (by omega)⟩;cases he:x.eff with
  |false=>
   have:=hconst (j+n) x hx he;exact⟨s,by rw[←Nat.add_assoc,this,hs]⟩
  |true=>
   obtain⟨k,hk⟩:=happ (j+n) x hx he (hn _ x hx (by omega) (by omega) he);exact⟨s++[k],by rw[←Nat.add_assoc,hk,hs,List.append_assoc]⟩
theorem iP{R:List RE}{fin:St}(hconst:∀i x,R[i]?=some x→x.eff=false→aN R fin (i+1)=aN R fin i){b j:Nat}(hb:b<(aN R fin j).length):∀(n:Nat),j+n≤R.length→(∀q x,R[q]?=some x→j≤q→q<j+n→x.eff=true→b<(aN R fin q).length→(aN R fin (q+1))[b]?=(aN R fin q)[b]?)→(aN R fin (j+n))[b]?=(aN R fin j)[b]?
 |0,_,_=>rfl
 |n+1,hl,hn=>by
  have h1:=iP hconst hb n (by omega) fun q x hx h1 h2 he=>hn q x hx h1 (by omega) he;obtain⟨x,hx⟩:∃x,R[j+n]?=some x:=⟨_,List.getElem?_eq_getElem (by omega)⟩;cases he:x.eff with
  |false=>
   have:=hconst (j+n) x hx he;rw[←Nat.add_assoc,this];exact h1
  |true=>
   have hlt:b<(aN R fin (j+n)).length:=by
    rw[List.getElem?_eq_getElem hb]at h1;exact(List.getElem?_eq_some_iff.1 h1).1
   rw[←h1,←Nat.add_assoc];exact hn _ x hx (by omega) (by omega) he hlt
theorem jT{R:List RE}{S:Nat→Prop}:∀(n:Nat),n≤R.length→∃j,j≤n∧(∀q z,R[q]?=some z→z.eff=true→q<j→S q)∧(j=n∨∃z,R[j]?=some z∧z.eff=true∧¬S j)
 |0,_=>⟨0,Nat.le_refl _,fun q z _ _ h=>by omega,.inl rfl⟩
 |n+1,hn=>by
  obtain⟨j,h1,h2,h3⟩:=jT (R:=R) (S:=S) n (by omega);rcases h3 with rfl|h3
  ·obtain⟨x,hx⟩:∃x,R[j]?=some x:=⟨_,List.getElem?_eq_getElem (l:=R) (i:=j) (by omega)⟩;by_cases hb:x.eff=true∧¬S j
   ·exact⟨j,by omega,h2,.inr ⟨x,hx,hb.1,hb.2⟩⟩
   ·refine⟨j+1,Nat.le_refl _,fun q z hq hz hlt=>?_,.inl rfl⟩;rcases Nat.lt_or_ge q j with h|h
    ·exact h2 q z hq hz h
    ·have:q=j:=by omega
     subst this;rw[hx]at hq;cases hq;exact Classical.byContradiction fun hS=>hb ⟨hz,hS⟩
  ·exact⟨j,by omega,h2,.inr h3⟩
theorem InvE.step{R:List RE}{fin:St}{S:Nat→Prop}{a:Act}{mS m':List MB}(hI:InvE B W0 m f R fin S a w mS){i:Nat}{x:RE}(hi:R[i]?=some x)
  (hdis:∀(j:Nat) (x':RE) (d:Tmp),R[j]?=some x'→x.r.dst=some d→x'.r.dst=some d→j=i)(hds:∀d,x.r.dst=some d→d<f.sz){y:Value}(he:Ext mS m')(hy:real m' x.r.v=some y)
  (hcut:∀j,j≤R.length→(∀q z,R[q]?=some z→z.eff=true→((S q∨q=i)↔q<j))→Rel B W0 m' (aN R fin j) w')(hgw:GOk w'.heap.size w')(hun:¬S i)
  (hconst:∀i x,R[i]?=some x→x.eff=false→aN R fin (i+1)=aN R fin i)(happ:∀i x,R[i]?=some x→x.eff=true→x.mkr=true→∃k,aN R fin (i+1)=aN R fin i++[k])
  (hE0:∀q r zq zr,R[q]?=some zq→R[r]?=some zr→zq.eff=true→zr.eff=true→q<r→S r→S q)(hE:∀q r zq zr,R[q]?=some zq→R[r]?=some zr→zq.eff=true→zr.eff=true→q<r→(S r∨r=i)→(S q∨q=i))
  (hN:∀k r zk zr,R[k]?=some zk→R[r]?=some zr→zk.sen=true→zr.eff=true→zr.mkr=false→k<r→(S r∨r=i)→(S k∨k=i)):
  InvE B W0 m f R fin (fun j=>S j∨j=i) (a.put x.r.dst y) w' m':=by
 have hsz:(a.put x.r.dst y).tmps.size=f.sz:=by
  rw[←hI.size];cases x.r.dst<;>simp[Act.put]
 refine⟨hI.ext.trans he,hcut,hsz,fun j x' d hj hS hd=>?_,fun t v ht hv=>?_,?_,hgw,fun k xk hk hnS hsen heff hall=>?_⟩
 ·cases hdd:x.r.dst with
  |none=>
   rcases hS with hS|rfl
   ·obtain⟨z,h1,h2⟩:=hI.done j x' d hj hS hd;exact⟨z,by simpa[Act.put]using h1,dB he _ _ h2⟩
   ·rw[hi]at hj;cases hj;rw[hdd]at hd;cases hd
  |some d'=>
   have hlt:=hds d' hdd;by_cases hq:d=d'
   ·subst hq;have hji:=hdis j x' d hj hdd hd;subst hji;rw[hi]at hj;cases hj;exact⟨y,by simp[Act.put,hI.size,hlt],hy⟩
   ·rcases hS with hS|rfl
    ·obtain⟨z,h1,h2⟩:=hI.done j x' d hj hS hd;exact⟨z,by simp only[Act.put];rw[Array.getElem?_setIfInBounds,if_neg (by intro h;exact hq h.symm)];exact h1,dB he _ _ h2⟩
    ·rw[hi]at hj;cases hj;rw[hdd]at hd;cases hd;exact absurd rfl hq
 ·obtain⟨z,h1,h2⟩:=hI.rest t v (fun j x' hj hS=>ht j x' hj (.inl hS)) hv;refine⟨z,?_,dB he _ _ h2⟩;cases hdd:x.r.dst with
  |none=>simpa[Act.put]using h1
  |some d'=>
   have hne:d'≠t:=by rintro rfl;exact ht i x hi (.inr rfl) hdd
   simp only[Act.put];rw[Array.getElem?_setIfInBounds,if_neg hne];exact h1
 ·have:=hI.defs.mono he;cases x.r.dst<;>simpa[Act.put]using this
 ·have hkm:aN R fin k=xk.mem:=by unfold aN;rw[hk]
  have hkl:k<R.length:=(List.getElem?_eq_some_iff.1 hk).1;have mkr_of:∀r z,R[r]?=some z→z.eff=true→k<r→(S r∨r=i)→z.mkr=true:=fun r z hr hz hlt hS=>by
   cases hm:z.mkr with
   |true=>rfl
   |false=>exact absurd (hN k r xk z hk hr hsen hz hm hlt hS) hnS
  have nek:∀q z,R[q]?=some z→z.eff=true→q≠k:=by rintro q z hq hz rfl;rw[hk]at hq;cases hq;rw[heff]at hz;cases hz
  by_cases hik:x.eff=true∧i<k
  ·refine⟨m',Ext.refl _,?_⟩;rw[←hkm];refine hcut k (by omega) fun q z hq hz=>⟨fun hS=>?_,fun hlt=>hall q z hq hz hlt⟩;rcases Nat.lt_or_ge q k with h|h
   ·exact h
   ·exfalso;have hqk:=nek q z hq hz;rcases hS with hS|rfl
    ·exact hun (hE0 i q x z hi hq hik.1 hz (by omega) hS)
    ·omega
  ·have hold:∀q z,R[q]?=some z→z.eff=true→q<k→S q:=fun q z hq hz hlt=>(hall q z hq hz hlt).resolve_right fun e=>hik (by subst e;rw[hi]at hq;cases hq;exact⟨hz,hlt⟩);obtain⟨mk,e1,r1⟩:=hI.sees k xk hk (fun h=>hnS (.inl h)) hsen heff hold;refine⟨mk,e1.trans he,?_⟩;obtain⟨j,hjl,hj1,hj2⟩:=jT (R:=R) (S:=fun q=>S q∨q=i) R.length (Nat.le_refl _);have hcutj:∀q z,R[q]?=some z→z.eff=true→((S q∨q=i)↔q<j):=by
    intro q z hq hz;refine⟨fun hS=>?_,hj1 q z hq hz⟩;rcases hj2 with rfl|⟨zj,hzj,hej,hnj⟩
    ·exact(List.getElem?_eq_some_iff.1 hq).1
    ·rcases Nat.lt_trichotomy q j with h|h|h
     ·exact h
     ·subst h;exact absurd hS hnj
     ·exact absurd (hE j q zj z hzj hq hej hz h hS) hnj
   refine r1.kept (hcut j hjl hcutj) (e1.trans he) fun b hb=>?_;rcases Nat.le_total k j with hkj|hjk
   ·obtain⟨s,hs⟩:=mY hconst happ (j:=k) (j-k) (by omega) fun q z hq h1 h2 hz=>by
     have:=nek q z hq hz;exact mkr_of q z hq hz (by omega) ((hcutj q z hq hz).2 (by omega))
    rw[show k+(j-k)=j by omega,hkm]at hs;rw[hs,List.getElem?_append_left hb]
   ·have:=db hconst (j:=j) (k-j) (by omega) fun q z hq hz hb2=>by
     have:=(hcutj q z hq hz).1 (hall q z hq hz (by omega));omega
    rw[show j+(k-j)=k by omega,hkm]at this;rw[this]
theorem jc{id:Nat}{ops:Array Oper}{Q:Exit→Fr→St→Prop}(hm:P.follows .mixedOrders=true)(hc:a9 P call){f':Fr}{st':St}(h:ib P call ops f st=some (f',st'))(hq:Q .normal f' st'):
  CodeSat P ro (.region id ops true) f st Q:=by
 unfold ib at h;cases hb:((dr (b7 ops)&&(b7 ops).all (fun d=>Nat.blt d f.sz))&&dW ops)with
 |false=>rw[hb]at h;cases h
 |true=>
 rw[hb,ac]at h;simp only[af]at hb;obtain⟨⟨hdis,hall⟩,hnd⟩:=hb;split at h
 case h_2=>cases h
 rename_i R fin hR;cases h;obtain⟨_,hlen,hmem0,hspec⟩:=lR ops.toList [] st 0 0 0 0 R st' hR (fun q y h=>by simp at h) (fun q y h=>by simp at h) (fun q y h=>by simp at h) (fun q y h=>by simp at h);simp only[List.length_nil,Nat.zero_add]at hlen hspec hmem0;have rec_of:∀{i:Nat} {o:Oper},ops[i]?=some o→∃x,R[i]?=some x∧SpecE P call ops f (jW ops) R st' i o x:=fun ho=>hspec _ _ (by simpa using ho);have op_of:∀{i:Nat} {x:RE},R[i]?=some x→∃o,ops[i]?=some o∧SpecE P call ops f (jW ops) R st' i o x:=by
  intro i x hr;have hi:i<ops.toList.length:=hlen▸(List.getElem?_eq_some_iff.1 hr).1;have ho:ops.toList[i]?=some ops.toList[i]:=List.getElem?_eq_getElem hi;obtain⟨r',h1,h2⟩:=hspec i _ ho;rw[hr]at h1;cases h1;exact⟨_,by simp,h2⟩
 have hdsz:∀(j:Nat) (x:RE) (d:Tmp),R[j]?=some x→x.r.dst=some d→d<f.sz∧d∈b7 ops:=by
  intro j x d hj hd;obtain⟨o,h1,h2⟩:=op_of hj;have hmem:d∈b7 ops:=List.mem_filterMap.2 ⟨o,List.mem_of_getElem? (by simpa using h1),h2.2.1▸hd⟩;exact⟨dt (List.all_eq_true.1 hall d hmem),hmem⟩
 have hdd:∀(i j:Nat) (x x':RE) (d:Tmp),R[i]?=some x→R[j]?=some x'→x.r.dst=some d→x'.r.dst=some d→j=i:=by
  intro i j r r' d hi hj hd hd';obtain⟨o,h1,h2⟩:=op_of hi;obtain⟨o',h1',h2'⟩:=op_of hj;exact dx (fun o:Oper=>o.dst) hdis j i o' o d (by simpa using h1') (by simpa using h1) (h2'.2.1▸hd') (h2.2.1▸hd)
 have hconst:∀i x,R[i]?=some x→x.eff=false→aN R st' (i+1)=aN R st' i:=by
  intro i x hx he;obtain⟨o,ho,hs⟩:=op_of hx;have e:aN R st' i=x.mem:=by unfold aN;rw[hx]
  rw[e];rcases hs.2.2.2 with⟨_,_,_,_,h5⟩|⟨_,_,_,_,_,h6⟩|⟨_,_,_,h4,_⟩|⟨_,_,_,_,_,h5⟩
  ·exact h5
  ·exact h6
  ·exact h4 he
  ·exact h5
 have hkeep:∀i x,R[i]?=some x→x.eff=true→∀c,x.blk=some c→∀b,b≠c→b<(aN R st' i).length→(aN R st' (i+1))[b]?=(aN R st' i)[b]?:=by
  intro i x hx he;obtain⟨o,ho,hs⟩:=op_of hx;have e:aN R st' i=x.mem:=by unfold aN;rw[hx]
  rw[e];rcases hs.2.2.2 with⟨_,_,h3,_⟩|⟨_,_,_,h3,_⟩|⟨_,_,_,_,_,_,_,_,h9⟩|⟨_,_,_,h3,_⟩
  ·rw[h3]at he;cases he
  ·rw[h3]at he;cases he
  ·exact h9.1 he
  ·rw[h3]at he;cases he
 have happ:∀i x,R[i]?=some x→x.eff=true→x.mkr=true→∃k,aN R st' (i+1)=aN R st' i++[k]:=by
  intro i x hx he hk;obtain⟨o,ho,hs⟩:=op_of hx;have e:aN R st' i=x.mem:=by unfold aN;rw[hx]
  rw[e];rcases hs.2.2.2 with⟨_,_,h3,_⟩|⟨_,_,_,h3,_⟩|⟨_,_,_,_,_,_,_,h8,_⟩|⟨_,_,_,h3,_⟩
  ·rw[h3]at he;cases he
  ·rw[h3]at he;cases he
  ·exact h8 he hk
  ·rw[h3]at he;cases he
 -- what lies ahead of an operation has been carried out
 have closed:∀(S:Nat→Prop),(∀j o,ops[j]?=some o→S j→∀e∈o.after,Region.binds .any e=true→S e.on)→
   ∀(i:Nat) (x:RE) (o:Oper),R[i]?=some x→ops[i]?=some o→(∀e∈o.after,Region.binds .any e=true→S e.on)→∀k,Nat.testBit x.r.anc k=true→S k:=by
  intro S hS i
  induction i using Nat.strongRecOn with
  |_ i ih=>
   intro x o hr ho hedge k hk;obtain⟨o',ho',hlt,_,hanc,_⟩:=op_of hr;rw[ho]at ho';cases ho';rw[hanc]at hk;obtain⟨e,he,hbe,hcase⟩:=ij hk;have he':e∈o.after:=by simpa using he
   have hei:=hlt e he' hbe;rcases hcase with rfl|⟨r',hr',hk'⟩
   ·exact hedge e he' hbe
   ·unfold am at hr';rw[List.getElem?_map,List.getElem?_take,if_pos hei]at hr';cases hre:R[e.on]? with
    |none=>rw[hre]at hr';cases hr'
    |some y=>
     rw[hre]at hr';simp only[Option.map_some,ad]at hr';subst hr';obtain⟨o2,ho2,_⟩:=op_of hre;exact ih e.on hei y o2 hre ho2 (hS e.on o2 ho2 (hedge e he' hbe)) k hk'
 have effsen:∀(q:Nat) (y:RE),R[q]?=some y→y.eff=true→y.sen=true:=by
  intro q z hq hz;obtain⟨oq,hoq,hsq⟩:=op_of hq;rcases hsq.2.2.2 with⟨_,_,h3,_⟩|⟨_,_,_,h3,_⟩|⟨_,_,h3,_⟩|⟨_,_,_,h3,_⟩
  ·rw[h3]at hz;cases hz
  ·rw[h3]at hz;cases hz
  ·exact h3
  ·rw[h3]at hz;cases hz
 -- of one that changes, what it waits for
 have sixth:∀{q:Nat} {z:RE},R[q]?=some z→z.eff=true→∀k y,k<q→R[k]?=some y→y.sen=true→Nat.testBit z.r.anc k=true∨(z.mkr=true∧y.eff=false∧y.mkr=true):=by
  intro q z hq hz;obtain⟨oq,hoq,hsq⟩:=op_of hq;rcases hsq.2.2.2 with⟨_,_,h3,_⟩|⟨_,_,_,h3,_⟩|⟨_,_,_,_,_,h6,_⟩|⟨_,_,_,h3,_⟩
  ·rw[h3]at hz;cases hz
  ·rw[h3]at hz;cases hz
  ·exact h6 hz
  ·rw[h3]at hz;cases hz
 have effDown:∀(S:Nat→Prop),(∀j o,ops[j]?=some o→S j→∀e∈o.after,Region.binds .any e=true→S e.on)→∀q r zq zr,R[q]?=some zq→R[r]?=some zr→zq.eff=true→zr.eff=true→q<r→S r→S q:=by
  intro S hS q r zq zr hq hr hqe hre hlt hSr;obtain⟨o,ho,_⟩:=op_of hr;rcases sixth hr hre q zq hlt hq (effsen q zq hq hqe)with h|⟨_,h,_⟩
  ·exact closed S hS r zr o hr ho (hS r o ho hSr) q h
  ·rw[hqe]at h;cases h
 have senDown:∀(S:Nat→Prop),(∀j o,ops[j]?=some o→S j→∀e∈o.after,Region.binds .any e=true→S e.on)→∀k r zk zr,R[k]?=some zk→R[r]?=some zr→zk.sen=true→zr.eff=true→zr.mkr=false→k<r→S r→S k:=by
  intro S hS k r zk zr hk hr hks hre hrm hlt hSr;obtain⟨o,ho,_⟩:=op_of hr;rcases sixth hr hre k zk hlt hk hks with h|⟨h,_⟩
  ·exact closed S hS r zr o hr ho (hS r o ho hSr) k h
  ·rw[hrm]at h;cases h
 intro B W0 m a w F hF hA hr;have hsize:ops.size=R.length:=by rw[hlen];simp
 have key:∀(fuel:Nat) (listed:Array Bool) (a:Act) (w:World) (mS:List MB),listed.size=ops.size→(∀j o,ops[j]?=some o→listed.getD j false=true→∀e∈o.after,Region.binds .any e=true→listed.getD e.on false=true)→
   InvE B W0 m f R st' (fun j=>listed.getD j false=true) a w mS→((List.range ops.size).filter (fun j=>!listed.getD j false)).length≤fuel→
   wpAnyIn F 0 P .any ops (Post B W0 m Q) fuel listed a w:=by
  intro fuel;have fin:∀(listed:Array Bool) (a:Act) (w:World) (mS:List MB),listed.size=ops.size→InvE B W0 m f R st' (fun j=>listed.getD j false=true) a w mS→Region.ready .any ops listed=[]→Post B W0 m Q .normal a w:=by
   intro listed a w mS hsz hI hrd;have hS:∀j,j<R.length→listed.getD j false=true:=by
    intro j
    induction j using Nat.strongRecOn with
    |_ j ih=>
     intro hj;cases hl:listed.getD j false with
     |true=>rfl
     |false=>
      exfalso;have hjo:ops[j]?=some ops[j]:=Array.getElem?_eq_getElem (by omega);obtain⟨r,hr,hlt,_⟩:=rec_of hjo;have:j∈Region.ready .any ops listed:=mem_ready.2 ⟨by
       rw[Array.getD_eq_getD_getElem?]at hl ⊢;rw[Array.getElem?_eq_getElem (by omega)]at hl ⊢;exact hl,_,hjo,fun e he hbe=>ih e.on (hlt e he hbe) (by have:=hlt e he hbe;omega)⟩
      rw[hrd]at this;cases this
   have hds:∀t,t∈b7 ops→∃(j:Nat) (x:RE),R[j]?=some x∧x.r.dst=some t:=by
    intro t ht;obtain⟨o,ho,hdo⟩:=List.mem_filterMap.1 ht;obtain⟨j,hj⟩:=List.mem_iff_getElem?.1 ho;obtain⟨x,hx,hs⟩:=rec_of (i:=j) (by simpa using hj);exact⟨j,x,hx,by rw[hs.2.1];exact hdo⟩
   have hget:∀{j:Nat} {r:Rec},(am R)[j]?=some r→∃x,R[j]?=some x∧r=x.r:=by
    intro j r hj;unfold am at hj;rw[List.getElem?_map]at hj;cases hx:R[j]? with
    |none=>rw[hx]at hj;cases hj
    |some x=>rw[hx]at hj;simp only[Option.map_some,ad]at hj;exact⟨x,rfl,hj.symm⟩
   refine⟨mS,fq f (am R),st',hI.ext,⟨⟨?_,fun t v hv=>?_⟩,?_⟩,?_,hq⟩
   ·rw[(gC (am R) f).1];exact hI.size
   ·rcases jE (am R) f t v (fun j r d hj hd=>by obtain⟨x,hx,rfl⟩:=hget hj;exact(hdsz j x d hx hd).1) hv with⟨j,r,h1,h2,rfl⟩|⟨h1,h2⟩
    ·obtain⟨x,hx,rfl⟩:=hget h1;exact hI.done j x t hx (hS j (List.getElem?_eq_some_iff.1 hx).1) h2
    ·have:t∉b7 ops:=fun hm=>by
      obtain⟨j,x,g1,g2⟩:=hds t hm;exact h2 j x.r (by unfold am;rw[List.getElem?_map,g1];rfl) g2
     exact hI.rest t v (fun j x hj _ hd=>this (hdsz j x t hj hd).2) h1
   ·rw[(gC (am R) f).2];exact hI.defs
   ·have:=hI.cut R.length (Nat.le_refl _) fun q y hq hy=>⟨fun _=>(List.getElem?_eq_some_iff.1 hq).1,fun h=>hS q h⟩;unfold aN at this;rw[List.getElem?_eq_none (Nat.le_refl _)]at this;exact this
  induction fuel with
  |zero=>
   intro listed a w mS hsz hcl hI hcnt;have hrd:Region.ready .any ops listed=[]:=by
    rw[List.eq_nil_iff_forall_not_mem];intro j hj;obtain⟨h1,o,ho,_⟩:=mem_ready.1 hj;have hlt:j<ops.size:=(Array.getElem?_eq_some_iff.1 ho).1;have:j∈(List.range ops.size).filter (fun j=>!listed.getD j false):=by
     rw[List.mem_filter,List.mem_range];refine⟨hlt,?_⟩;rw[Array.getD_eq_getD_getElem?,Array.getElem?_eq_getElem (by omega)]at h1 ⊢;simpa using h1
    have hnil:=List.eq_nil_of_length_eq_zero (Nat.le_zero.1 hcnt);rw[hnil]at this;cases this
   exact⟨hrd,fin listed a w mS hsz hI hrd⟩
  |succ fuel ih=>
   intro listed a w mS hsz hcl hI hcnt;refine⟨fin listed a w mS hsz hI,fun i hi=>?_⟩;obtain⟨h1,o,ho,hedge⟩:=mem_ready.1 hi;have hlt:i<ops.size:=(Array.getElem?_eq_some_iff.1 ho).1;have hun:listed.getD i false=false:=by
    rw[Array.getD_eq_getD_getElem?,Array.getElem?_eq_getElem (by omega)]at h1 ⊢;exact h1
   obtain⟨x,hri,hlts,hdst,hanc,hcase⟩:=rec_of ho;have hmi:aN R st' i=x.mem:=by unfold aN;rw[hri]
   have hancS:=closed (fun j=>listed.getD j false=true) hcl i x o hri ho hedge;have hT:∀t v,aU f (jW ops i) x.r.anc (am (R.take i)) t=some v→∃y,a.tmps[t]?=some y∧real mS v=some y:=by
    intro t v hv;rcases frameR_look hv with⟨j,r,g1,g2,g3,rfl⟩|⟨g1,g2⟩
    ·unfold am at g1;rw[List.getElem?_map,List.getElem?_take]at g1;split at g1
     ·cases hx:R[j]? with
      |none=>rw[hx]at g1;cases g1
      |some y=>
       rw[hx]at g1;simp only[Option.map_some,ad]at g1;subst g1;exact hI.done j y t hx (hancS j g3) g2
     ·cases g1
    ·refine hI.rest t v (fun j x' hj hS hd=>?_) g2;obtain⟨oj,hoj,hsj⟩:=op_of hj;have hdj:oj.dst=some t:=by rw[←hsj.2.1];exact hd
     cases hb:oj.after.toList.any (fun e=>Region.binds .any e&&Nat.beq e.on i)with
     |true=>
      obtain⟨e,he,hbe⟩:=List.any_eq_true.1 hb;rw[af]at hbe;have:=hcl j oj hoj hS e (by simpa using he) hbe.1;rw[aC hbe.2,hun]at this;cases this
     |false=>
      refine g1 (List.mem_filterMap.2 ⟨oj,List.mem_of_getElem? (by simpa using hoj),?_⟩);rw[hb];exact hdj
   have hget:∀j,(listed.setIfInBounds i true).getD j false=true↔(listed.getD j false=true∨j=i):=by
    intro j;simp only[Array.getD_eq_getD_getElem?,Array.getElem?_setIfInBounds];by_cases hji:i=j
    ·subst hji;simp[hsz,hlt]
    ·rw[if_neg hji];constructor
     ·exact fun h=>.inl h
     ·rintro(h|h)
      ·exact h
      ·exact absurd h.symm hji
   have next:∀(y:Value) (m':List MB) (w':World),Ext mS m'→real m' x.r.v=some y→
     (∀j,j≤R.length→(∀q z,R[q]?=some z→z.eff=true→((listed.getD q false=true∨q=i)↔q<j))→Rel B W0 m' (aN R st' j) w')→GOk w'.heap.size w'→
     wpAnyIn F 0 P .any ops (Post B W0 m Q) fuel (listed.setIfInBounds i true) (a.put o.dst y) w':=by
    intro y m' w' e1 e2 e3 e4;have hcl2:∀j o',ops[j]?=some o'→(listed.getD j false=true∨j=i)→∀e∈o'.after,Region.binds .any e=true→(listed.getD e.on false=true∨e.on=i):=by
     intro j o' hj hl e he hbe;rcases hl with hl|rfl
     ·exact .inl (hcl j o' hj hl e he hbe)
     ·rw[ho]at hj;cases hj;exact .inl (hedge e he hbe)
    have hN:=hI.step hri (fun j x' d hj hd hd'=>hdd i j x x' d hri hj hd hd') (fun d hd=>(hdsz i x d hri hd).1) e1 e2 e3 e4 (by rw[hun];simp) hconst happ (effDown _ hcl) (effDown _ hcl2) (senDown _ hcl2);rw[hdst]at hN;refine ih _ _ _ m' (by simpa using hsz) ?_ ?_ ?_
    ·intro j o' hj hl e he hbe;rw[hget]at hl ⊢;rcases hl with hl|rfl
     ·exact .inl (hcl j o' hj hl e he hbe)
     ·rw[ho]at hj;cases hj;exact .inl (hedge e he hbe)
    ·have:(fun j=>(listed.setIfInBounds i true).getD j false=true)=(fun j=>listed.getD j false=true∨j=i):=funext fun j=>propext (hget j);rw[this];exact hN
    ·have hlt2:((List.range ops.size).filter (fun j=>!(listed.setIfInBounds i true).getD j false)).length<((List.range ops.size).filter (fun j=>!listed.getD j false)).length:=by
      have hsub:(List.range ops.size).filter (fun j=>!(listed.setIfInBounds i true).getD j false)=((List.range ops.size).filter (fun j=>!listed.getD j false)).filter (fun j=>j !=i):=by
       rw[List.filter_filter];apply List.filter_congr;intro j _;by_cases h3:j=i
       ·rw[(hget j).2 (.inr h3)];subst h3;simp
       ·cases h2:listed.getD j false with
        |true=>rw[(hget j).2 (.inl h2)];simp
        |false=>
         have h1:(listed.setIfInBounds i true).getD j false=false:=by
          cases h1:(listed.setIfInBounds i true).getD j false with
          |false=>rfl
          |true=>
            rcases(hget j).1 h1 with h|h
            ·rw[h2]at h;cases h
            ·exact absurd h h3
         rw[h1];simp[h3]
      rw[hsub];have hmem:i∈(List.range ops.size).filter (fun j=>!listed.getD j false):=by rw[List.mem_filter,List.mem_range];exact⟨hlt,by rw[hun];rfl⟩
      exact List.length_filter_lt_length_iff_exists.2 ⟨i,hmem,by simp⟩
     omega
   have same:x.eff=false→∀j,j≤R.length→(∀q z,R[q]?=some z→z.eff=true→((listed.getD q false=true∨q=i)↔q<j))→Rel B W0 mS (aN R st' j) w:=by
    intro he j hj hcut;refine hI.cut j hj fun q z hq hz=>?_;have hqi:q≠i:=by rintro rfl;rw[hri]at hq;cases hq;rw[he]at hz;cases hz
    rw[←hcut q z hq hz];exact⟨fun h=>.inl h,fun h=>h.resolve_right hqi⟩
   -- one that looks finds the memory as it is told
   have hereCut:(∀q y,q<i→R[q]?=some y→y.eff=true→Nat.testBit x.r.anc q=true)→x.sen=true→(x.eff=true∨x.mkr=false)→∀q z,R[q]?=some z→z.eff=true→(listed.getD q false=true↔q<i):=by
    intro hbefore hsen hkind q z hq hz;refine⟨fun hS=>?_,fun hlt=>hancS q (hbefore q z hlt hq hz)⟩;rcases Nat.lt_trichotomy q i with h|h|h
    ·exact h
    ·subst h;rw[hun]at hS;cases hS
    ·exfalso;obtain⟨oq,hoq,hsq⟩:=op_of hq;rcases sixth hq hz i x h hri hsen with hb|⟨_,hb1,hb2⟩
     ·have:=closed (fun j=>listed.getD j false=true) hcl q z oq hq hoq (hcl q oq hoq hS) i hb;rw[hun]at this;cases this
     ·rcases hkind with hk|hk
      ·rw[hk]at hb1;cases hb1
      ·rw[hk]at hb2;cases hb2
   have here:(∀q y,q<i→R[q]?=some y→y.eff=true→Nat.testBit x.r.anc q=true)→x.sen=true→(x.eff=true∨x.mkr=false)→Rel B W0 mS x.mem w:=by
    intro hbefore hsen hkind;rw[←hmi];exact hI.cut i (by omega) (hereCut hbefore hsen hkind)
   unfold wpOpIn;rw[ho];rcases hcase with⟨hg,hv,he,_,_⟩|⟨hg,hn,hv,he,_,_⟩|⟨hg,hop,hsen,hsame,hl1,hl2,_,_,_,hl4⟩|⟨hg,⟨tl,xo,bl,ol,hop,hxo,hvl,hblk,hl3⟩,hlx,he,_,_⟩
   ·simp only
    rw[if_neg (by rw[eR hT hg];simp)];exact⟨fun g _=>hF.fn g,next undef mS w (Ext.refl _) (by rw[hv];rfl) (same he) hI.gok⟩
   ·simp only
    rw[if_pos (eR hT hg)];have hrel:Rel w.heap.size w mS (mS.map fun _=>Blk.dead) w:=Rel.ofRo hI.gok (by simp) fun j b e hj he=>by
     rw[List.getElem?_map]at hj;rw[he]at hj;simp only[Option.map_some,ad]at hj;subst hj;exact⟨trivial,rfl⟩
    refine j5 hc hF hT hrel (hv _) (cK hnd ho) ?_;intro y m' w' e1 e2 e3;have hlen:m'.length=mS.length:=by have:=e3.len;simpa using this
    have hm':m'=mS:=by
     apply List.ext_getElem?;intro k;rcases Nat.lt_or_ge k mS.length with hk|hk
     ·rw[List.getElem?_eq_getElem hk];exact e1 k _ (List.getElem?_eq_getElem hk)
     ·rw[List.getElem?_eq_none hk,List.getElem?_eq_none (by omega)]
    subst hm';exact next y _ w' (Ext.refl _) e2 (fun j hj hcut=>(same he j hj hcut).later e3.below) e3.gok
   ·simp only
    rw[if_pos (eR hT hg)];cases he:x.eff with
    |false=>
     have hb:=hl1 he;cases hmk:x.mkr with
     |true=>
      obtain⟨hs1,hs2⟩:=hl4 he hmk;obtain⟨mi,x1,r1⟩:=hI.sees i x hri (by rw[hun];simp) hsen he fun q z hq hz hlt=>hancS q (hb q z hlt hq hz);refine see_upon hc hF hT x1 r1 hs1 hs2 (cK hnd ho) ?_;intro y w' e2 e3 e4;exact next y mS w' (Ext.refl _) e2 (fun j hj hcut=>(same he j hj hcut).later e3) e4
     |false=>
     refine mq hc hF hT (here hb hsen (.inr hmk)) hop (cK hnd ho) ?_;intro y m' w' e1 e2 e3;rw[hsame he,←hmi]at e3;refine next y m' w' e1 e2 (fun j hj hcut=>?_) e3.gok
     have hc1:=hereCut hb hsen (.inr hmk);have hsplit:∀q z,R[q]?=some z→z.eff=true→(q<i↔q<j):=by
      intro q z hq hz;have hqi:q≠i:=by rintro rfl;rw[hri]at hq;cases hq;rw[he]at hz;cases hz
      rw[←hc1 q z hq hz,←hcut q z hq hz];exact⟨fun h=>.inl h,fun h=>h.resolve_right hqi⟩
     rcases Nat.le_total i j with hij|hij
     ·have:=db hconst (j:=i) (j-i) (by omega) fun q z hq hz hb=>by have:=hsplit q z hq hz;omega
      rw[show i+(j-i)=j by omega]at this;rw[this];exact e3
     ·have:=db hconst (j:=j) (i-j) (by omega) fun q z hq hz hb=>by have:=hsplit q z hq hz;omega
      rw[show j+(i-j)=i by omega]at this;rw[←this];exact e3
    |true=>
     refine mq hc hF hT (here (fun q y h1 h2 h3=>?_) hsen (.inl he)) hop (cK hnd ho) ?_
     ·rcases hl2 he q y h1 h2 (effsen q y h2 h3)with h|⟨_,h,_⟩
      ·exact h
      ·rw[h3]at h;cases h
     ·intro y m' w' e1 e2 e3;refine next y m' w' e1 e2 (fun j hj hcut=>?_) e3.gok
      have hij:i<j:=(hcut i x hri he).1 (.inr rfl);have:=db hconst (j:=i+1) (j-(i+1)) (by omega) fun q z hq hz hb=>?_
      ·rw[show i+1+(j-(i+1))=j by omega]at this;rw[this];exact e3
      ·have hS:=(hcut q z hq hz).2 (by omega);rcases hS with hS|hS
       ·have:=effDown (fun j=>listed.getD j false=true) hcl i q x z hri hq he hz (by omega) hS;rw[hun]at this;cases this
       ·omega
   ·simp only
    rw[if_pos (eR hT hg)]
    -- so many of the effects have been carried out
    obtain⟨j,hjl,hj1,hj2⟩:=jT (R:=R) (S:=fun j=>listed.getD j false=true) R.length (Nat.le_refl _);have hcut:∀q z,R[q]?=some z→z.eff=true→(listed.getD q false=true↔q<j):=by
     intro q z hq hz;refine⟨fun hS=>?_,hj1 q z hq hz⟩;rcases hj2 with rfl|⟨zj,hzj,hej,hnS⟩
     ·exact(List.getElem?_eq_some_iff.1 hq).1
     ·rcases Nat.lt_trichotomy q j with h|h|h
      ·exact h
      ·subst h;exact absurd hS hnS
      ·exfalso;exact hnS (effDown (fun j=>listed.getD j false=true) hcl j q zj z hzj hq hej hz h hS)
    have hrel:=hI.cut j hjl hcut;have hpt:∃e,at? mS bl=some e:=by
     cases xo with
     |tmp tt=>
      obtain⟨y,_,h2⟩:=hT tt _ hxo;obtain⟨e,he,_⟩:=bM h2;exact⟨e,he⟩
     |const c=>
      have h2:=bS mS hxo;obtain⟨e,he,_⟩:=bM h2;exact⟨e,he⟩
     |global g=>
      have h2:real mS (.ptr bl ol)=some (a.eval (.global g)):=dE hxo;obtain⟨e,he,_⟩:=bM h2;exact⟨e,he⟩
     |func g=>cases hxo
    obtain⟨e0,he0⟩:=hpt;have hbl:bl<(aN R st' j).length:=by rw[←hrel.len];exact(List.getElem?_eq_some_iff.1 (bz he0)).1
    have hmk1:∀q z,R[q]?=some z→z.eff=true→z.mkr=true→bl<(aN R st' q).length→(aN R st' (q+1))[bl]?=(aN R st' q)[bl]?:=by
     intro q z hq hz hk hlq;obtain⟨k,hk⟩:=happ q z hq hz hk;rw[hk,List.getElem?_append_left hlq]
    have hsameB:(aN R st' j)[bl]?=(aN R st' i)[bl]?:=by
     rcases Nat.le_total j i with hji|hij
     ·have:=iP hconst hbl (i-j) (by omega) fun q z hq h1 h2 hz hlq=>by
       cases hk:z.mkr with
       |true=>exact hmk1 q z hq hz hk hlq
       |false=>
        rcases hl3 q z (by omega) hq hz hk with h|⟨c,hc1,hc2⟩
        ·have:=(hcut q z hq hz).1 (hancS q h);omega
        ·exact hkeep q z hq hz c hc1 bl (fun e=>hc2 e.symm) hlq
      rw[show j+(i-j)=i by omega]at this;exact this.symm
     ·have hbi:bl<(aN R st' i).length:=by
       rcases Nat.lt_or_ge bl (aN R st' i).length with h|h
       ·exact h
       ·exfalso;have hnone:(aN R st' i)[bl]?=none:=List.getElem?_eq_none h;rw[hmi]at hnone;unfold e9 bA at hvl;simp only[hnone]at hvl;split at hvl
        ·split at hvl<;>cases hvl
        ·cases hvl
        ·cases hvl
      have:=iP hconst hbi (j-i) (by omega) fun q z hq h1 h2 hz hlq=>by
       cases hk:z.mkr with
       |true=>exact hmk1 q z hq hz hk hlq
       |false=>
        have hqi:q≠i:=by rintro rfl;rw[hri]at hq;cases hq;rw[he]at hz;cases hz
        have hS:=(hcut q z hq hz).2 (by omega);obtain⟨oq,hoq,hsq⟩:=op_of hq;rcases hsq.2.2.2 with⟨_,_,h3,_⟩|⟨_,_,_,h3,_⟩|⟨_,_,_,_,_,_,h7,_⟩|⟨_,_,_,h3,_⟩
        ·rw[h3]at hz;cases hz
        ·rw[h3]at hz;cases hz
        ·rcases h7 hz hk i x (by omega) hri hlx with hb|⟨c,b',hc1,hc2,hc3⟩
         ·have:=closed (fun j=>listed.getD j false=true) hcl q z oq hq hoq (hcl q oq hoq hS) i hb;rw[hun]at this;cases this
         ·rw[hblk]at hc2;cases hc2;exact hkeep q z hq hz c hc1 bl (fun e=>hc3 e.symm) hlq
        ·rw[h3]at hz;cases hz
      rw[show i+(j-i)=j by omega]at this;exact this
    have hpv:aT P (aN R st' j) (ev (aU f (jW ops i) x.r.anc (am (R.take i)))) o.op=some x.r.v:=by
     rw[hop];simp only[aT,hxo];rw[hmi]at hsameB;rw[←hvl];unfold e9 bA;rw[hsameB]
    refine pure_upon hF hT hrel hpv (cK hnd ho) ?_;intro y hy;exact next y mS w (Ext.refl _) hy (same he) hI.gok
 refine wpIn_region_any hm (key ops.size (Array.replicate ops.size false) a _ m (by simp) ?_ ?_ ?_)
 ·intro j o hj hl;simp[Array.getD_eq_getD_getElem?,Array.getElem?_replicate]at hl;split at hl<;>simp at hl
 ·have hno:∀j,¬((Array.replicate ops.size false).getD j false=true):=by
   intro j hl;simp[Array.getD_eq_getD_getElem?,Array.getElem?_replicate]at hl;split at hl<;>simp at hl
  refine⟨Ext.refl m,fun j hj hcut=>?_,hA.tmps.1,fun j x d _ hS=>absurd hS (hno j),fun t v _ hv=>hA.tmps.2 t v hv,hA.defers,hr.drew'.gok,fun i x hi _ _ _ hall=>⟨m,Ext.refl m,?_⟩⟩
  ·have:=db hconst (j:=0) j (by omega) fun q z hq hz hb=>hno q ((hcut q z hq hz).2 (by omega));rw[Nat.zero_add]at this;rw[this,hmem0];exact hr.drew'
  ·have hil:=(List.getElem?_eq_some_iff.1 hi).1;have hmi:aN R st' i=x.mem:=by unfold aN;rw[hi]
   have:=db hconst (j:=0) i (by omega) fun q z hq hz hb=>hno q (hall q z hq hz (by omega));rw[Nat.zero_add]at this;rw[←hmi,this,hmem0];exact hr.drew'
 ·have:=List.length_filter_le (fun j=>!(Array.replicate ops.size false).getD j false) (List.range ops.size);simpa using this
end
end Go.Vm
namespace Go.Vm
variable [G:Glob] [Φ:Frz]
open Go.RowKit
def kb(P:Program)(call:Call)(ops:Array Oper)(f:Fr)(st:St):Option (Fr×St):=none
section
variable {P:Program} {call:Call} {ro:Option Nat} {f:Fr} {st:St} {B:Nat} {W0 w w':World} {m:List MB}
theorem nN{id:Nat}{ops:Array Oper}{Q:Exit→Fr→St→Prop}(hm:P.follows .mixedOrders=true)(hc:a9 P call){f':Fr}{st':St}(h:kb P call ops f st=some (f',st'))(hq:Q .normal f' st'):
 CodeSat P ro (.region id ops true) f st Q:=by cases h
end
end Go.Vm
namespace Go.Vm
variable [G:Glob] [Φ:Frz]
open Go.RowKit
def nj(P:Program)(call:Call)(ops:Array Oper)(f:Fr)(st:St):Option (Fr×St):=none
section
variable {P:Program} {call:Call} {ro:Option Nat} {f:Fr} {st:St} {B:Nat} {W0 w w':World} {m:List MB}
theorem sat_draw_fp{id:Nat}{ops:Array Oper}{Q:Exit→Fr→St→Prop}(hm:P.follows .mixedOrders=true)(hc:a9 P call){f':Fr}{st':St}(h:nj P call ops f st=some (f',st'))(hq:Q .normal f' st'):
 CodeSat P ro (.region id ops true) f st Q:=by cases h
end
end Go.Vm
namespace Go.Vm
variable [G:Glob] [Φ:Frz]
open Go.RowKit
section
variable {P:Program} {call:Call} {ro:Option Nat} {f:Fr} {st:St} {Q:Exit→Fr→St→Prop} {B:Nat} {W0 w:World} {m:List MB}
theorem Rel.push(h:Rel B W0 m st w){o:Obj}{b:Blk}{e:MB}(he:e.blk=w.heap.size)(hb:BlkOk B (m++[e]) (w.alloc o) e b):Rel B W0 (m++[e]) (st++[b]) (w.alloc o):=
 h.newb ((Below.refl _ _).alloc (Nat.le_refl _) _) he hb
theorem ft(w:World)(k:Nat)(o:Obj):Only k w (w.putObj k o):=⟨rfl,rfl,rfl,by simp,fun j hj=>World.putObj_heap_other hj⟩
def f6(T:Tr):List Tmp→List V→Tr
 |t::r,v::s=>f6 (T.put t v) r s
 |_,_=>T
theorem mO{sz:Nat}:∀{ts:List Tmp} {vs:List V} {T:Tr} {tmps:Array Value} {xs:List Value},TOk m sz T.get tmps→ak m vs=some xs→(ts.all fun t=>Nat.blt t sz)=true→
  TOk m sz (f6 T ts vs).get ((ts.zip xs).foldl (fun(tmps:Array Value) (p:Tmp×Value)=>tmps.setIfInBounds p.1 p.2) tmps)
 |[],vs,T,tmps,xs,h,_,_=>by simpa[f6]using h
 |t::r,[],T,tmps,xs,h,hx,_=>by simp only[ak,ad]at hx;subst hx;simpa[f6]using h
 |t::r,v::s,T,tmps,xs,h,hx,ht=>by
  obtain⟨a,b,h1,h2,rfl⟩:=aq hx;simp only[List.all_cons,af]at ht;simp only[f6,List.zip_cons_cons,List.foldl_cons];refine mO ?_ h2 ht.2;have hd:=dt ht.1;refine⟨by simp[h.1],fun i u hu=>?_⟩;rw[Array.getElem?_setIfInBounds];rcases Tr.get_put hu with⟨rfl,rfl⟩|⟨hne,ho⟩
  ·exact⟨a,by simp[h.1,hd],h1⟩
  ·obtain⟨y,g1,g2⟩:=h.2 i u ho;exact⟨y,by rw[if_neg (fun q=>hne q.symm)];exact g1,g2⟩
def om:Exit→Option (Option Code)
 |.normal=>some none
 |.ret=>some (some .ret)
 |.exit id=>some (some (.exit id))
 |_=>none
theorem mC{l:Nat}{args:List V}{sz:Nat}{T:Tr}{params:Array Tmp}{assign body:Code}{dn:Nat}(hl:st[l]?=some (.loop .ready none sz T params assign body dn))(hlen:args.length=params.size)
  (hp:(params.toList.all fun t=>Nat.blt t sz)=true){R:V→St→Prop}
  (h:CodeSat P (some l) assign ⟨sz,f6 T params.toList args,[]⟩ st (Nxt (fun f1 s1=>∃sz' T' ps' as' bd' dn',s1[l]?=some (.loop .ready none sz' T' ps' as' bd' dn')∧
    CodeSat P (some l) body f1 (s1.set l (.loop .busy none sz' T' ps' as' bd' dn')) (fun e f2 s2=>∃j stt pend sz2 T2 ps2 as2 bd2 dn2,om e=some j∧s2[l]?=some (.loop stt pend sz2 T2 ps2 as2 bd2 dn2)∧
     R (.bool j.isNone) (s2.set l (.loop (if j.isNone then .ready else .done) j sz2 T2 ps2 as2 bd2 dn2)))) (fun _ _ _=>False))):
  l7 P l args st R:=by
 intro B W0 m w rargs e hargs hr he;obtain⟨hB,fn,tmps,d,hd,hheap,hT⟩:=hr.blk l _ e hl he;have hsz:rargs.length=params.size:=by rw[aM hargs,hlen]
 refine⟨fn,_,assign,body,run_yield hheap (by simp[hsz]),?_⟩;refine roundIn_of_wpIn (F:=Fence.wide) (n:=0) trivial ?_;have hF:FOk m (some l) (Fence.wide.inRound e.blk):=.inr ⟨l,e,rfl,he,rfl⟩;have hA:AOk m ⟨sz,f6 T params.toList args,[]⟩ {tmps:=(params.zip rargs.toArray).foldl (fun tmps (t,a)=>tmps.setIfInBounds t a) tmps,defers:=[]}:=by
  refine⟨?_,trivial⟩;have:=mO hT hargs hp;have e1:(params.zip rargs.toArray).foldl (fun tmps (x:Tmp×Value)=>tmps.setIfInBounds x.1 x.2) tmps=(params.toList.zip rargs).foldl (fun(tmps:Array Value) (p:Tmp×Value)=>tmps.setIfInBounds p.1 p.2) tmps:=by
   rw[←Array.foldl_toList,Array.toList_zip]
  rw[←e1]at this;exact this
 refine wpIn_mono (h B W0 m _ w _ hF hA hr) ?_;rintro x a1 w1 ⟨m1,f1,s1,e1,e2,e3,e4⟩;cases x with
 |normal=>
  obtain⟨sz',T',ps',as',bd',dn',hl1,hbody⟩:=e4;have he1:=e1 _ _ he;obtain⟨hB1,fn1,tmps1,d1,hd1,hheap1,hT1⟩:=e3.blk l _ e hl1 he1;refine⟨_,run_beginRound hheap1 rfl,?_⟩;have hlt:e.blk<w1.heap.size:=(Array.getElem?_eq_some_iff.1 hheap1).1;have hr1:Rel B W0 m1 (s1.set l (.loop .busy none sz' T' ps' as' bd' dn')) (w1.putObj e.blk (.loop {state:=.busy,pending:=none,fn:=fn1,tmps:=tmps1,params:=ps',assign:=as',body:=bd',defers:=d1.blk})):=
   e3.update hl1 rfl he1 (ft _ _ _) ⟨hB1,fn1,tmps1,d1,hd1,World.putObj_heap_same hlt,hT1⟩
  refine wpIn_mono (hbody B W0 m1 a1 _ _ (hF.mono e1) e2 hr1) ?_;rintro x a2 w2 ⟨m2,f2,s2,g1,g2,g3,j,stt,pend,sz2,T2,ps2,as2,bd2,dn2,hj,hl2,hR⟩;have he2:=g1 _ _ he1;obtain⟨hB2,fn2,tmps2,d2,hd2,hheap2,hT2⟩:=g3.blk l _ e hl2 he2;have hlt2:e.blk<w2.heap.size:=(Array.getElem?_eq_some_iff.1 hheap2).1;have hr2:Rel B W0 m2 (s2.set l (.loop (if j.isNone then .ready else .done) j sz2 T2 ps2 as2 bd2 dn2)) (w2.putObj e.blk (.loop {state:=if j.isNone then .ready else .done,pending:=j,fn:=fn2,tmps:=tmps2,params:=ps2,assign:=as2,body:=bd2,defers:=d2.blk})):=
   g3.update hl2 rfl he2 (ft _ _ _) ⟨hB2,fn2,tmps2,d2,hd2,World.putObj_heap_same hlt2,hT2⟩
  have fin:∃v w',(Instr.endRound e.blk j).run P w2=.ok v w'∧Ret B W0 m R (.returned v) w':=
   ⟨_,_,run_endRound j hheap2,.bool j.isNone,_,m2,_,rfl,e1.trans g1,rfl,hr2,hR⟩
  cases x<;>simp only[om,ad]at hj<;>first|(subst hj;exact fin)|cases hj
 |_=>exact e4.elim
theorem ik{l:Nat}{r:Loop}(h:w.heap[l]?=some (.loop r))(fn:FuncId)(tmps:Array Value)(ps:Array Tmp)(assign body:Code):
  (Instr.enterLoop fn tmps ps assign body (some l)).run P w=
    .ok (w.heap.size,[]) (w.alloc (.loop {state:=.ready,pending:=none,fn,tmps,params:=ps,assign,body,defers:=r.defers})):=by
 simp[Instr.enterLoop,run_getLoop h]
def dO(Q:Exit→Fr→St→Prop)(f:Fr)(st:St):Option Code→Prop
 |none=>Q .normal f st
 |some .ret=>Q .ret f st
 |some (.exit id)=>Q (.exit id) f st
 |_=>False
theorem after_ok{l:Nat}{e:MB}{F:Fence}{a:Act}(hF:FOk m ro F)(hA:AOk m f a)(hr:Rel B W0 m st w)(he:m[l]?=some e){stt:LoopState}{pend:Option Code}{sz:Nat}{T:Tr}{ps:Array Tmp}{as bd:Code}{dn:Nat}
  (hl:st[l]?=some (.loop stt pend sz T ps as bd dn))(hs:stt≠.busy)(hq:dO Q f (st.set l .dead) pend):
  ∃jump w4,(Instr.endLoop e.blk).run P w=.ok jump w4∧(match jump with
   |none=>Post B W0 m Q .normal a w4
   |some c=>c.wpIn F 0 P (Post B W0 m Q) a w4):=by
 obtain⟨hB,fn,tmps,d,hd,hheap,hT⟩:=hr.blk l _ e hl he;have hr2:=hr.update (b':=.dead) hl rfl he (ft w e.blk (.loop {state:=.exhausted,pending:=pend,fn:=fn,tmps:=tmps,params:=ps,assign:=as,body:=bd,defers:=d.blk})) trivial;refine⟨_,_,run_endLoop hheap hs,?_⟩;simp only
 unfold dO at hq;split at hq
 ·exact⟨m,f,_,Ext.refl m,hA,hr2,hq⟩
 ·exact wpIn_ret ⟨m,f,_,Ext.refl m,hA,hr2,hq⟩
 ·exact wpIn_exit ⟨m,f,_,Ext.refl m,hA,hr2,hq⟩
 ·exact hq.elim
theorem lX{g:Operand}{h:FuncId}{fs cs:List V}{a:Act}(hA:AOk m f a)(hg:ev f.T.get g=some (.func (.func h) fs cs))(hp:bi P h=true)(L:Nat)(w:World):
  ∃rfs rcs,ak m fs=some rfs∧ak m cs=some rcs∧
   (resolve a.eval (rangeCall g L) 0).run P w=.ok {target:=.fn (.func h) rcs.toArray,args:=rfs.toArray++#[Value.func (.yield L) #[] #[]]} w∧
   (invoke (.fn (.func h) rcs.toArray) (rfs.toArray++#[Value.func (.yield L) #[] #[]])).run P w=.ok (.enter h (rfs++[Value.func (.yield L) #[] #[]]++rcs).toArray) w:=by
 have h1:=hA.ev _ _ hg;simp only[real]at h1;split at h1
 ·rename_i rfs rcs hfs hcs;refine⟨rfs,rcs,hfs,hcs,?_,?_⟩
  ·simp only[resolve];rw[←Option.some.inj h1];simp[Deferred.ofValue,Act.eval]
  ·simp only[invoke];rw[cI hp];congr 2;apply Array.ext';simp
 ·cases h1
theorem mD{g:Operand}{ps:Array Tmp}{assign body:Code}{h:FuncId}{fs cs:List V}(hg:ev f.T.get g=some (.func (.func h) fs cs))(hp:bi P h=true)
  (hcall:FnSat P h (fs++[.yield (st.length+1)]++cs) (st++[.defd,.loop .ready none f.sz f.T ps assign body st.length]) (fun _ s2=>∃stt pend sz T ps as bd dn,s2[st.length+1]?=some (.loop stt pend sz T ps as bd dn)∧stt≠.busy∧
    dO Q ⟨f.sz,f.T,st.length::f.defs⟩ (s2.set (st.length+1) .dead) pend)):
  CodeSat P none (.rangeFunc g ps assign body) f st Q:=by
 intro B W0 m a w F hF hA hr;obtain⟨_,rfl⟩|⟨_,_,hh,_⟩:=hF
 case inr=>cases hh
 refine wpIn_rangeFunc fun fn _=>?_
 -- the two blocks
 have hr1:Rel B W0 (m++[⟨w.heap.size,0,0,false⟩]) (st++[.defd]) (w.alloc (.deferred (some []))):=hr.push rfl ⟨hr.base,heap_alloc_new w _⟩;have e1:=Ext.snoc m ⟨w.heap.size,0,0,false⟩;have e2:=Ext.snoc (m++[⟨w.heap.size,0,0,false⟩]) ⟨w.heap.size+1,0,0,false⟩;have hm1:((m++[⟨w.heap.size,0,0,false⟩])++[⟨w.heap.size+1,0,0,false⟩])[st.length]?=some ⟨w.heap.size,0,0,false⟩:=by
  refine e2 _ _ ?_;rw[←hr.len,List.getElem?_append_right (Nat.le_refl _)];simp
 have hm2:((m++[⟨w.heap.size,0,0,false⟩])++[⟨w.heap.size+1,0,0,false⟩])[st.length+1]?=some ⟨w.heap.size+1,0,0,false⟩:=by
  rw[←hr.len,List.getElem?_append_right (by simp)];simp
 have hr2:Rel B W0 ((m++[⟨w.heap.size,0,0,false⟩])++[⟨w.heap.size+1,0,0,false⟩]) ((st++[.defd])++[.loop .ready none f.sz f.T ps assign body st.length])
   ((w.alloc (.deferred (some []))).alloc (.loop {state:=.ready,pending:=none,fn,tmps:=a.tmps,params:=ps,assign,body,defers:=w.heap.size})):=
  hr1.push (by simp) ⟨by have:=hr.base;simp only;omega,fn,a.tmps,⟨w.heap.size,0,0,false⟩,iC hm1 rfl,by
   have:=heap_alloc_new (w.alloc (.deferred (some []))) (.loop {state:=.ready,pending:=none,fn,tmps:=a.tmps,params:=ps,assign,body,defers:=w.heap.size});rw[World.size_alloc]at this;exact this,(hA.mono (e1.trans e2)).tmps⟩
 rw[List.append_assoc st]at hr2;have hA2:=hA.mono (e1.trans e2);obtain⟨rfs,rcs,hfs,hcs,hres,hinv⟩:=lX (P:=P) hA2 hg hp (w.heap.size+1) ((w.alloc (.deferred (some []))).alloc (.loop {state:=.ready,pending:=none,fn,tmps:=a.tmps,params:=ps,assign,body,defers:=w.heap.size}));have hy:real ((m++[⟨w.heap.size,0,0,false⟩])++[⟨w.heap.size+1,0,0,false⟩]) (.yield (st.length+1))=some (.func (.yield (w.heap.size+1)) #[] #[]):=by simp only[real,iC hm2 rfl]
 have hc:=hcall B W0 _ _ _ (aG (aG hfs (aL hy rfl)) hcs) hr2;refine⟨_,_,_,_,_,h,_,_,run_enterLoop_outer fn a.tmps ps assign body,hres,fun _ _=>trivial,hinv,fun h=>(by cases h),callsIn_wide.2 (hc.mono ?_)⟩;rintro e w3 ⟨v,x,m3,s3,rfl,g1,g2,g3,stt,pend,sz,T,ps',as',bd',dn',hl,hs,haft⟩;have hA3:AOk m3 ⟨f.sz,f.T,st.length::f.defs⟩ {a with defers:=[{target:=.collected w.heap.size,args:=#[]}]++a.defers}:=
  ⟨(hA2.mono g1).tmps,⟨_,g1 _ _ hm1,rfl⟩,(hA2.mono g1).defers⟩
 obtain⟨jump,w4,j1,j2⟩:=after_ok (P:=P) (Q:=Q) (F:=Fence.wide) (ro:=none) (.inl ⟨rfl,rfl⟩) hA3 g3 (g1 _ _ hm2) hl hs haft;refine⟨jump,w4,j1,?_⟩;have up:∀e a w,Post B W0 m3 Q e a w→Post B W0 m Q e a w:=fun _ _ _ hp=>hp.up ((e1.trans e2).trans g1);cases jump with
 |none=>exact up _ _ _ j2
 |some c=>exact wpIn_mono j2 up
theorem ja{l0:Nat}{g:Operand}{ps:Array Tmp}{assign body:Code}{h:FuncId}{fs cs:List V}(hg:ev f.T.get g=some (.func (.func h) fs cs))(hp:bi P h=true)
  {st0:LoopState}{pe0:Option Code}{sz0:Nat}{T0:Tr}{ps0:Array Tmp}{as0 bd0:Code}{dn0:Nat}(hl0:st[l0]?=some (.loop st0 pe0 sz0 T0 ps0 as0 bd0 dn0))
  (hcall:FnSat P h (fs++[.yield st.length]++cs) (st++[.loop .ready none f.sz f.T ps assign body dn0]) (fun _ s2=>∃stt pend sz T ps as bd dn,s2[st.length]?=some (.loop stt pend sz T ps as bd dn)∧stt≠.busy∧
    dO Q f (s2.set st.length .dead) pend)):
  CodeSat P (some l0) (.rangeFunc g ps assign body) f st Q:=by
 intro B W0 m a w F hF hA hr;have hF0:=hF;obtain⟨hh,_⟩|⟨l',e0,hh,he0,rfl⟩:=hF
 ·cases hh
 cases hh;obtain⟨hB0,fn0,tmps0,d0,hd0,hheap0,hT0⟩:=hr.blk l0 _ e0 hl0 he0;refine wpIn_rangeFunc fun fn _=>?_;have e1:=Ext.snoc m ⟨w.heap.size,0,0,false⟩;have hm2:(m++[⟨w.heap.size,0,0,false⟩])[st.length]?=some ⟨w.heap.size,0,0,false⟩:=by
  rw[←hr.len,List.getElem?_append_right (Nat.le_refl _)];simp
 have hr2:Rel B W0 (m++[⟨w.heap.size,0,0,false⟩]) (st++[.loop .ready none f.sz f.T ps assign body dn0])
   (w.alloc (.loop {state:=.ready,pending:=none,fn,tmps:=a.tmps,params:=ps,assign,body,defers:=d0.blk})):=
  hr.push rfl ⟨hr.base,fn,a.tmps,d0,oI e1 hd0,heap_alloc_new w _,(hA.mono e1).tmps⟩
 have hA2:=hA.mono e1;obtain⟨rfs,rcs,hfs,hcs,hres,hinv⟩:=lX (P:=P) hA2 hg hp w.heap.size (w.alloc (.loop {state:=.ready,pending:=none,fn,tmps:=a.tmps,params:=ps,assign,body,defers:=d0.blk}));have hy:real (m++[⟨w.heap.size,0,0,false⟩]) (.yield st.length)=some (.func (.yield w.heap.size) #[] #[]):=by simp only[real,iC hm2 rfl]
 have hc:=hcall B W0 _ _ _ (aG (aG hfs (aL hy rfl)) hcs) hr2;refine⟨_,_,_,_,_,h,_,_,ik hheap0 fn a.tmps ps assign body,hres,fun _ _=>trivial,hinv,fun h=>(by cases h),(callsIn_wide (n:=0)).2 (hc.mono ?_)⟩;rintro e w3 ⟨v,x,m3,s3,rfl,g1,g2,g3,stt,pend,sz,T,ps',as',bd',dn',hl,hs,haft⟩;have hA3:AOk m3 f {a with defers:=[]++a.defers}:=hA2.mono g1;obtain⟨jump,w4,j1,j2⟩:=after_ok (P:=P) (Q:=Q) (ro:=some l0) ((hF0.mono e1).mono g1) hA3 g3 (g1 _ _ hm2) hl hs haft;refine⟨jump,w4,j1,?_⟩;have up:∀e a w,Post B W0 m3 Q e a w→Post B W0 m Q e a w:=fun _ _ _ hp=>hp.up (e1.trans g1);cases jump with
 |none=>exact up _ _ _ j2
 |some c=>exact wpIn_mono j2 up
end
variable {α:Type}
def cB(n:Nat)(k:Nat→α):α:=Nat.rec (motive:=fun _=>α) (k 0) (fun m _=>k (Nat.succ m)) n
theorem cA(n:Nat)(k:Nat→α):cB n k=k n:=by cases n<;>rfl
def forceI(n:Int)(k:Int→α):α:=match n with
 |.ofNat n=>cB n fun n=>k (.ofNat n)
 |.negSucc n=>cB n fun n=>k (.negSucc n)
theorem forceI_eq(n:Int)(k:Int→α):forceI n k=k n:=by cases n<;>simp only[forceI,cA]
def forceB(b:Bool)(k:Bool→α):α:=match b with
 |true=>k true
 |false=>k false
theorem nf(b:Bool)(k:Bool→α):forceB b k=k b:=by cases b<;>rfl
def lK:List UInt8→(List UInt8→α)→α
 |[],k=>k []
 |b::r,k=>cB b.toNat fun n=>lK r fun r=>k (UInt8.ofNat n::r)
theorem jR:∀(l:List UInt8) (k:List UInt8→α),lK l k=k l
 |[],k=>rfl
 |b::r,k=>by simp only[lK,cA,jR r,UInt8.ofNat_toNat]
mutual
def cR:V→(V→α)→α
 |.bool b,k=>forceB b fun b=>k (.bool b)
 |.int kd n,k=>forceI n fun n=>k (.int kd n)
 |.str l,k=>lK l fun l=>k (.str l)
 |.ptr b off,k=>cB b fun b=>cB off fun off=>k (.ptr b off)
 |.slice b off len ex c z,k=>cB b fun b=>cB off fun off=>cB len fun len=>forceB ex fun ex=>cB c fun c=>cB z fun z=>k (.slice b off len ex c z)
 |.func fn fs cs,k=>fd fs fun fs=>fd cs fun cs=>k (.func fn fs cs)
 |.yield l,k=>cB l fun l=>k (.yield l)
 |.map l,k=>cB l fun l=>k (.map l)
 |.nos b n,k=>cB b fun b=>cB n fun n=>k (.nos b n)
 |.iface t v,k=>cR v fun v=>k (.iface t v)
 |.agg cs,k=>fd cs fun cs=>k (.agg cs)
 |.tuple cs,k=>fd cs fun cs=>k (.tuple cs)
 |.gp b off,k=>cB b fun b=>cB off fun off=>k (.gp b off)
 |v,k=>k v
def fd:List V→(List V→α)→α
 |[],k=>k []
 |v::r,k=>cR v fun v=>fd r fun r=>k (v::r)
end
mutual
theorem jQ:∀(v:V) (k:V→α),cR v k=k v
 |.bool b,k=>by simp only[cR,nf]
 |.int kd n,k=>by simp only[cR,forceI_eq]
 |.str l,k=>by simp only[cR,jR]
 |.ptr b off,k=>by simp only[cR,cA]
 |.slice b off len ex c z,k=>by simp only[cR,cA,nf]
 |.func fn fs cs,k=>by simp only[cR,di fs,di cs]
 |.yield l,k=>by simp only[cR,cA]
 |.map l,k=>by simp only[cR,cA]
 |.nos b n,k=>by simp only[cR,cA]
 |.iface t v,k=>by simp only[cR,jQ v]
 |.agg cs,k=>by simp only[cR,di cs]
 |.tuple cs,k=>by simp only[cR,di cs]
 |.gp b off,k=>by simp only[cR,cA]
 |.nilPtr,k|.nilSlice,k|.nilFunc,k|.nilIface,k|.nilMap,k|.lst ..,k|.lptr ..,k=>by simp only[cR]
theorem di:∀(l:List V) (k:List V→α),fd l k=k l
 |[],k=>rfl
 |v::r,k=>by simp only[fd,jQ v,di r]
end
def dm:St→(St→α)→α
 |[],k=>k []
 |.ro o cs::r,k=>fd cs fun cs=>dm r fun r=>k (.ro o cs::r)
 |.row cs t sz::r,k=>fd cs fun cs=>cB sz fun sz=>dm r fun r=>k (.row cs t sz::r)
 |.mp cs::r,k=>fd cs fun cs=>dm r fun r=>k (.mp cs::r)
 |.sit s p::r,k=>lK s fun s=>cB p fun p=>dm r fun r=>k (.sit s p::r)
 |b::r,k=>dm r fun r=>k (b::r)
theorem dh:∀(s:St) (k:St→α),dm s k=k s
 |[],k=>rfl
 |.ro o cs::r,k=>by simp only[dm,di,dh r]
 |.row cs t sz::r,k=>by simp only[dm,di,cA,dh r]
 |.dead::r,k=>by simp only[dm,dh r]
 |.defd::r,k=>by simp only[dm,dh r]
 |.mpu::r,k=>by simp only[dm,dh r]
 |.mp cs::r,k=>by simp only[dm,di,dh r]
 |.sit s p::r,k=>by simp only[dm,jR,cA,dh r]
 |.loop ..::r,k=>by simp only[dm,dh r]
def forced(lim:Nat)(args:List V)(st:St)(k:List V→St→Option (V×St)):Option (V×St):=bif Nat.ble 1000 lim then fd args fun args=>dm st fun st=>(match k args st with
 |some (v,s)=>cR v fun v=>dm s fun s=>some (v,s)
 |none=>none)else k args st
theorem hU(lim:Nat)(args:List V)(st:St)(k:List V→St→Option (V×St)):forced lim args st k=k args st:=by
 unfold forced;cases Nat.ble 1000 lim with
 |false=>rfl
 |true=>
  rw[ac];simp only[di,dh];cases k args st with
  |none=>rfl
  |some q=>obtain⟨v,s⟩:=q;simp only[jQ]
end Go.Vm
namespace Go.Vm
variable [G:Glob] [Φ:Frz]
open Go.RowKit
def j9(k:Nat)(T:Tr):List V→Tr
 |[]=>T
 |v::r=>j9 (k+1) (T.put k v) r
theorem jO:∀{vs:List V} {k:Nat} {T:Tr} {i:Nat} {u:V},(j9 k T vs).get i=some u→(∃j,i=k+j∧vs[j]?=some u)∨T.get i=some u
 |[],k,T,i,u,h=>.inr h
 |v::r,k,T,i,u,h=>by
  rcases jO (vs:=r) (k:=k+1) (T:=T.put k v) h with⟨j,rfl,hj⟩|h
  ·exact .inl ⟨j+1,by omega,by simpa using hj⟩
  ·rcases Tr.get_put h with⟨rfl,rfl⟩|⟨_,h⟩
   ·exact .inl ⟨0,by omega,by simp⟩
   ·exact .inr h
def resV(P:Program)(st:St)(f:Fr):ResultVar→Option V
 |.tmp t=>f.T.get t
 |.cell a t=>match f.T.get a with
  |some (.ptr b off)=>e9 P st t b off
  |_=>none
def resL(P:Program)(st:St)(f:Fr):List ResultVar→Option (List V)
 |[]=>some []
 |x::r=>match resV P st f x,resL P st f r with
  |some v,some l=>some (v::l)
  |_,_=>none
def mQ:List V→V
 |[v]=>v
 |vs=>.tuple vs
def gO:List Nat→St→Option St
 |[],st=>some st
 |d::r,st=>match st[d]? with
  |some .defd=>gO r (st.set d .dead)
  |_=>none
def iQ(P:Program)(fn:Func)(f:Fr)(st:St):Option (V×St):=
 match gO f.defs st with
 |some st2=>match resL P st2 f fn.results.toList with
  |some l=>some (mQ l,st2)
  |none=>none
 |none=>none
section
variable {P:Program} {call:Call} {ro:Option Nat} {f:Fr} {st:St} {B:Nat} {W0 w:World} {m:List MB}
def nR(tmps:Array Value):ResultVar→Sem Value
 |.tmp t=>pure (tmps.getD t undef)
 |.cell b t=>do loadVar t (←asAddr (tmps.getD b undef))
theorem results_eq(fn:Func)(tmps:Array Value):results fn tmps=(do
 let vs←fn.results.mapM (nR tmps)
 pure (if h:vs.size=1 then vs[0]else .tuple vs)):=rfl
theorem resL_ok{a:Act}(hA:TOk m f.sz f.T.get a.tmps)(hr:Rel B W0 m st w):∀(l:List ResultVar) (vs:List V),resL P st f l=some vs→∃xs,ak m vs=some xs∧(l.mapM (nR a.tmps)).run P w=.ok xs w
 |[],vs,h=>by simp only[resL,ad]at h;subst h;exact⟨[],rfl,by simp⟩
 |x::r,vs,h=>by
  simp only[resL]at h;cases h1:resV P st f x with
  |none=>simp[h1]at h
  |some v=>
   cases h2:resL P st f r with
   |none=>simp[h1,h2]at h
   |some l=>
    simp only[h1,h2,ad]at h;subst h;obtain⟨xs,hxs,hrun⟩:=resL_ok hA hr r l h2;cases x with
    |tmp t=>
     obtain⟨y,g1,g2⟩:=hA.2 t v h1;refine⟨y::xs,aL g2 hxs,?_⟩;have:a.tmps.getD t undef=y:=by simp[Array.getD_eq_getD_getElem?,g1]
     simp only[List.mapM_cons,Sem.run_bind,nR,this,Sem.run_pure,Result.andThen_ok,hrun]
    |cell b t=>
     simp only[resV]at h1;split at h1
     ·rename_i bb off hb;obtain⟨y,g1,g2⟩:=hA.2 b _ hb;obtain⟨z,hz,hl⟩:=loadV_ok (P:=P) hr h1 g2;refine⟨z::xs,aL hz hxs,?_⟩;have h3:a.tmps.getD b undef=y:=by simp[Array.getD_eq_getD_getElem?,g1]
      obtain⟨e,_,rfl⟩:=bM g2;simp only[Instr.loadAt,Instr.sureAddr,Sem.run_bind,Sem.run_pure,Result.andThen_ok]at hl;simp only[List.mapM_cons,Sem.run_bind,nR,h3,asAddr,Sem.run_pure,Result.andThen_ok,hl,hrun]
     ·cases h1
theorem results_ok{fn:Func}{a:Act}(hA:TOk m f.sz f.T.get a.tmps)(hr:Rel B W0 m st w){vs:List V}(h:resL P st f fn.results.toList=some vs):
  ∃x,real m (mQ vs)=some x∧(results fn a.tmps).run P w=.ok x w:=by
 obtain⟨xs,hxs,hrun⟩:=resL_ok hA hr _ _ h;have hlen:=aM hxs;refine⟨if h:xs.toArray.size=1 then xs.toArray[0]else .tuple xs.toArray,?_,?_⟩
 ·match vs,xs,hxs,hlen with
  |[],[],_,_=>rfl
  |[v],[x],h,_=>
   obtain⟨a,b,h1,h2,h3⟩:=aq h;cases h3;simpa[mQ]using h1
  |v::v'::r,x::x'::s,h,_=>
   have:¬(x::x'::s).toArray.size=1:=by simp
   rw[dif_neg this];simp only[mQ,real,h]
 ·rw[results_eq,Sem.run_bind,Array.mapM_eq_mapM_toList,Sem.run_map,hrun];rfl
theorem jL{fn:Func}{Q:V→St→Prop}{m0:List MB}(he0:Ext m0 m):∀(defs:List Nat) (ds:List Deferred) (st:St) (w:World) (tmps:Array Value),DOk m defs ds→TOk m f.sz f.T.get tmps→Rel B W0 m st w→
  ∀st2 vs,gO defs st=some st2→resL P st2 f fn.results.toList=some vs→Q (mQ vs) st2→LeavesInM Fence.wide 0 P fn tmps (Ret B W0 m0 Q) ds .returning w
 |[],[],st,w,tmps,_,hT,hr,st2,vs,hk,hres,hq=>by
  simp only[gO,ad]at hk;subst hk;obtain⟨x,hx,hrun⟩:=results_ok (a:={tmps:=tmps,defers:=[]}) hT hr hres;exact⟨x,hrun,mQ vs,x,m,st,rfl,he0,hx,hr,hq⟩
 |d::r,x::s,st,w,tmps,⟨⟨e,h1,h2⟩,h3⟩,hT,hr,st2,vs,hk,hres,hq=>by
  simp only[gO]at hk;split at hk
  ·rename_i hd;obtain⟨hB,hheap⟩:=hr.blk d _ e hd h1;have hr2:=hr.update (b':=.dead) hd rfl h1 (ft w e.blk (.deferred none)) trivial;refine⟨by simp,.inl ⟨e.blk,_,by rw[h2],run_takeDeferred hheap,?_⟩⟩;exact jL he0 r s (st.set d .dead) _ tmps h3 hT hr2 st2 vs hk hres hq
  ·cases hk
 |[],_::_,_,_,_,h,_,_,_,_,_,_,_=>h.elim
 |_::_,[],_,_,_,h,_,_,_,_,_,_,_=>h.elim
def Leave(P:Program)(fn:Func)(Q:V→St→Prop)(e:Exit)(f:Fr)(st:St):Prop:=(e=.normal∨e=.ret)∧∃v s,iQ P fn f st=some (v,s)∧Q v s
theorem fn_sat{g:FuncId}{fn:Func}{c:Code}{args:List V}{Q:V→St→Prop}(hf:P.funcs[g]?=some fn)(hb:fn.body=some c)(hl:args.length≤fn.ntmps)
  (h:CodeSat P none c ⟨fn.ntmps,j9 0 .lf args,[]⟩ st (Leave P fn Q)):FnSat P g args st Q:=by
 intro B W0 m w rargs hargs hr;have hlen:=aM hargs;refine callsIn_wide.1 (callsIn_of_wp_marks (n:=0) (F:=Fence.wide) hf hb trivial ?_ rfl);have hA:AOk m ⟨fn.ntmps,j9 0 .lf args,[]⟩ {tmps:=rargs.toArray++Array.replicate (fn.ntmps-rargs.toArray.size) undef,defers:=[]}:=by
  refine⟨⟨by simp;omega,fun t v hv=>?_⟩,trivial⟩;rcases jO hv with⟨j,rfl,hj⟩|hv
  ·obtain⟨y,g1,g2⟩:=cf hargs hj;refine⟨y,?_,g1⟩;simp only[Nat.zero_add];rw[Array.getElem?_append_left (by simpa using(List.getElem?_eq_some_iff.1 g2).1)];simpa using g2
  ·simp[Tr.get,Tr.getF]at hv
 refine wpIn_mono (h B W0 m _ w _ (.inl ⟨rfl,rfl⟩) hA hr) ?_;rintro e a' w' ⟨m',f',st',e1,e2,e3,he,v,s,hlv,hq⟩;have fin:LeavesInM Fence.wide 0 P fn a'.tmps (Ret B W0 m Q) a'.defers .returning w':=by
  unfold iQ at hlv;split at hlv
  ·rename_i st2 hk;split at hlv
   ·rename_i l hres;cases hlv;exact jL e1 f'.defs a'.defers st' w' a'.tmps e2.defers e2.tmps e3 _ l hk hres hq
   ·cases hlv
  ·cases hlv
 rcases he with rfl|rfl<;>exact fin
end
def oL(pend:Option Code)(f:Fr)(st:St):Option (Exit×Fr×St):=
 match pend with
 |none=>some (.normal,f,st)
 |some .ret=>some (.ret,f,st)
 |some (.exit id)=>some (.exit id,f,st)
 |_=>none
def jU(P:Program)(call:Call)(ro:Option Nat)(g:Operand)(ps:Array Tmp)(assign body:Code)(f:Fr)(st:St):Option (Exit×Fr×St):=
 match ev f.T.get g with
 |some (.func (.func h) fs cs)=>bif bi P h then
   match ro with
   |none=>match call (.fn h) (fs++[.yield (st.length+1)]++cs) (st++[.defd,.loop .ready none f.sz f.T ps assign body st.length])with
    |some (_,s2)=>match s2[st.length+1]? with
     |some (.loop .busy _ _ _ _ _ _ _)=>none
     |some (.loop _ pend _ _ _ _ _ _)=>oL pend ⟨f.sz,f.T,st.length::f.defs⟩ (s2.set (st.length+1) .dead)
     |_=>none
    |none=>none
   |some l0=>match st[l0]? with
    |some (.loop _ _ _ _ _ _ _ dn0)=>match call (.fn h) (fs++[.yield st.length]++cs) (st++[.loop .ready none f.sz f.T ps assign body dn0])with
     |some (_,s2)=>match s2[st.length]? with
      |some (.loop .busy _ _ _ _ _ _ _)=>none
      |some (.loop _ pend _ _ _ _ _ _)=>oL pend f (s2.set st.length .dead)
      |_=>none
     |none=>none
    |_=>none
  else none
 |_=>none
def aS(P:Program)(call:Call)(jmp:Code→Fr→St→Option (Exit×Fr×St))(lim:Nat)(ro:Option Nat):Code→Fr→St→Option (Exit×Fr×St)
 |.skip,f,st=>some (.normal,f,st)
 |.label _,f,st=>some (.normal,f,st)
 |.ret,f,st=>some (.ret,f,st)
 |.exit id,f,st=>some (.exit id,f,st)
 |.region _ ops false,f,st=>match gf P call ops ops.toList f st with
  |some (f',st')=>some (.normal,f',st')
  |none=>none
 |.region _ ops true,f,st=>match(bif Region.lexB .any ops&&dW ops then dj P call ops st ops.toList f else none)with
  |some f'=>some (.normal,f',st)
  |none=>match kb P call ops f st with
   |some (f',st')=>some (.normal,f',st')
   |none=>match ju P call ops f st with
    |some (f',st')=>some (.normal,f',st')
    |none=>match ib P call ops f st with
     |some (f',st')=>some (.normal,f',st')
     |none=>match nj P call ops f st with
      |some (f',st')=>some (.normal,f',st')
      |none=>none
 |.seq a b,f,st=>match aS P call jmp lim ro a f st with
  |some (.normal,f',st')=>aS P call jmp lim ro b f' st'
  |r=>r
 |.cond c x y,f,st=>match ev f.T.get c with
  |some (.bool true)=>aS P call jmp lim ro x f st
  |some (.bool false)=>aS P call jmp lim ro y f st
  |_=>none
 |.block id c,f,st=>match aS P call jmp lim ro c f st with
  |some (.exit id',f',st')=>bif Nat.beq id' id then some (.normal,f',st')else some (.exit id',f',st')
  |r=>r
 |.loop c,f,st=>iter (fun f st=>aS P call jmp lim ro c f st) lim f st
 |.rangeFunc g ps as bd,f,st=>jU P call ro g ps as bd f st
 |.goto l,f,st=>some (.goto l,f,st)
 |.scope c,f,st=>match aS P call jmp lim ro c f st with
  |some (.goto l,f',st')=>match findLabel c l with
   |some rest=>match jmp rest f' st' with
    |some (.goto _,_,_)=>none
    |r=>r
   |none=>none
  |r=>r
 |_,_,_=>none
def noJmp:Code→Fr→St→Option (Exit×Fr×St):=fun _ _ _=>none
def gT(P:Program)(call:Call)(lim:Nat)(ro:Option Nat):Code→Fr→St→Option (Exit×Fr×St):=aS P call (aS P call noJmp lim ro) lim ro
def jV(P:Program)(call:Call)(lim:Nat)(g:FuncId)(args:List V)(st:St):Option (V×St):=
 match P.funcs[g]? with
 |some fn=>match fn.body with
  |some c=>bif Nat.ble args.length fn.ntmps then
    match gT P call lim none c ⟨fn.ntmps,j9 0 .lf args,[]⟩ st with
    |some (.normal,f,st1)=>iQ P fn f st1
    |some (.ret,f,st1)=>iQ P fn f st1
    |_=>none
   else none
  |none=>none
 |none=>none
def kC(P:Program)(call:Call)(lim:Nat)(l:Nat)(args:List V)(st:St):Option (V×St):=
 match st[l]? with
 |some (.loop .ready none sz T ps as bd dn)=>bif Nat.beq args.length ps.size&&ps.toList.all (fun t=>Nat.blt t sz)then
   match gT P call lim (some l) as ⟨sz,f6 T ps.toList args,[]⟩ st with
   |some (.normal,f1,s1)=>match s1[l]? with
    |some (.loop .ready none sz' T' ps' as' bd' dn')=>
     match gT P call lim (some l) bd f1 (s1.set l (.loop .busy none sz' T' ps' as' bd' dn'))with
     |some (e,f2,s2)=>match s2[l]?,om e with
      |some (.loop _ _ sz2 T2 ps2 as2 bd2 dn2),some j=>some (.bool j.isNone,s2.set l (.loop (if j.isNone then .ready else .done) j sz2 T2 ps2 as2 bd2 dn2))
      |_,_=>none
     |none=>none
    |_=>none
   |_=>none
  else none
 |_=>none
def E(P:Program)(ct:Call)(lim:Nat):Nat→Call
 |0=>fun _ _ _=>none
 |n+1=>fun tgt args st=>forced lim args st fun args st=>match ct tgt args st with
  |some r=>some r
  |none=>match tgt with
   |.fn g=>jV P (E P ct lim n) lim g args st
   |.yld l=>kC P (E P ct lim n) lim l args st
section
variable {P:Program} {call:Call} {ro:Option Nat} {f:Fr} {st:St} {lim:Nat}
abbrev Is3(r:Exit×Fr×St):Exit→Fr→St→Prop:=fun a b d=>(a,b,d)=r
theorem nz{pend:Option Code}{r:Exit×Fr×St}(h:oL pend f st=some r):dO (Is3 r) f st pend:=by
 unfold oL at h;unfold dO;split at h<;>first|(cases h;rfl)|cases h
theorem ov(hc:a9 P call){g:Operand}{ps:Array Tmp}{as bd:Code}{r:Exit×Fr×St}(h:jU P call ro g ps as bd f st=some r):CodeSat P ro (.rangeFunc g ps as bd) f st (Is3 r):=by
 unfold jU at h;split at h
 ·rename_i h0 fs cs hg;cases hp:bi P h0 with
  |false=>rw[hp]at h;cases h
  |true=>
   rw[hp,ac]at h;split at h
   ·split at h
    ·rename_i v s2 hcall;split at h
     ·cases h
     ·rename_i stt pend sz T ps' as' bd' dn' hs hl;refine mD hg hp ((hc (.fn h0) _ _ _ hcall).mono ?_);rintro v' s' hq;cases hq;exact⟨stt,pend,sz,T,ps',as',bd',dn',hl,hs,nz h⟩
     ·cases h
    ·cases h
   ·rename_i l0;split at h
    ·rename_i st0 pe0 sz0 T0 ps0 as0 bd0 dn0 hl0;split at h
     ·rename_i v s2 hcall;split at h
      ·cases h
      ·rename_i stt pend sz T ps' as' bd' dn' hs hl;refine ja hg hp hl0 ((hc (.fn h0) _ _ _ hcall).mono ?_);rintro v' s' hq;cases hq;exact⟨stt,pend,sz,T,ps',as',bd',dn',hl,hs,nz h⟩
      ·cases h
     ·cases h
    ·cases h
 ·cases h
def JmpOk(P:Program)(ro:Option Nat)(jmp:Code→Fr→St→Option (Exit×Fr×St)):Prop:=∀(c:Code) (f:Fr) (st:St) (r:Exit×Fr×St),jmp c f st=some r→CodeSat P ro c f st (fun e f' s'=>(e,f',s')=r)
theorem bv(hm:P.follows .mixedOrders=true)(hc:a9 P call)(ro:Option Nat){jmp:Code→Fr→St→Option (Exit×Fr×St)}(hj:JmpOk P ro jmp):∀(c:Code) (f:Fr) (st:St) (r:Exit×Fr×St),aS P call jmp lim ro c f st=some r→CodeSat P ro c f st (Is3 r)
 |.skip,f,st,r,h=>by simp only[aS,ad]at h;exact kU h
 |.label _,f,st,r,h=>by simp only[aS,ad]at h;exact jA h
 |.ret,f,st,r,h=>by simp only[aS,ad]at h;exact nM h
 |.exit id,f,st,r,h=>by simp only[aS,ad]at h;exact kW h
 |.region id ops false,f,st,r,h=>by
  simp only[aS]at h;split at h
  ·rename_i f' st' he;cases h;exact sat_region hc he rfl
  ·cases h
 |.region id ops true,f,st,r,h=>by
  simp only[aS]at h;split at h
  ·rename_i f' he;cases h;cases hb:(Region.lexB .any ops&&dW ops)with
   |false=>rw[hb]at he;cases he
   |true=>
    rw[hb,ac]at he;simp only[af]at hb;exact sat_draw hm hc hb.1 hb.2 he rfl
  ·split at h
   ·rename_i f' st' he;cases h;exact nN hm hc he rfl
   split at h
   ·rename_i f' st' he;cases h;exact jb hm hc he rfl
   ·split at h
    ·rename_i f' st' he;cases h;exact jc hm hc he rfl
    ·split at h
     ·rename_i f' st' he;cases h;exact sat_draw_fp hm hc he rfl
     ·cases h
 |.seq a b,f,st,r,h=>by
  simp only[aS]at h;refine sat_seq ?_;split at h
  ·rename_i f' st' ha;refine(bv hm hc ro hj a f st _ ha).mono ?_;rintro e f2 s2 hq;cases hq;exact bv hm hc ro hj b f' st' r h
  ·rename_i hne;cases ha:aS P call jmp lim ro a f st with
   |none=>rw[ha]at h;cases h
   |some q=>
    rw[ha]at h;cases h;refine(bv hm hc ro hj a f st _ ha).mono ?_;rintro e f2 s2 hq;cases e with
    |normal=>exact absurd (ha.trans (congrArg some hq.symm)) (hne _ _)
    |_=>exact hq
 |.cond c x y,f,st,r,h=>by
  simp only[aS]at h;split at h
  ·rename_i hcnd;exact fI hcnd (bv hm hc ro hj x f st r h)
  ·rename_i hcnd;exact fI hcnd (bv hm hc ro hj y f st r h)
  ·cases h
 |.block id c,f,st,r,h=>by
  simp only[aS]at h;refine mE ?_;split at h
  ·rename_i id' f' st' ha;refine(bv hm hc ro hj c f st _ ha).mono ?_;rintro e f2 s2 hq;cases hq;simp only[gm];cases hb:Nat.beq id' id with
   |true=>rw[hb,ac]at h;rw[if_pos (aC hb)];exact Option.some.inj h
   |false=>
    rw[hb,ai]at h;rw[if_neg (fun q=>by rw[q,Nat.beq_refl]at hb;cases hb)];exact Option.some.inj h
  ·rename_i hne;cases ha:aS P call jmp lim ro c f st with
   |none=>rw[ha]at h;cases h
   |some q=>
    rw[ha]at h;cases h;refine(bv hm hc ro hj c f st _ ha).mono ?_;rintro e f2 s2 hq;cases e with
    |exit id'=>exact absurd (ha.trans (congrArg some hq.symm)) (hne _ _ _)
    |_=>exact hq
 |.loop c,f,st,r,h=>by
  simp only[aS]at h;obtain⟨e,f',st'⟩:=r;exact sat_iter (fun f st e f' st' hb=>bv hm hc ro hj c f st _ hb) h
 |.rangeFunc g ps as bd,f,st,r,h=>by
  simp only[aS]at h;exact ov hc h
 |.scope c,f,st,r,h=>by
  simp only[aS]at h;refine mz ?_;split at h
  ·rename_i l f' st' ha;refine(bv hm hc ro hj c f st _ ha).mono ?_;rintro e f2 s2 hq;cases hq;split at h
   ·rename_i rest hf;refine⟨rest,hf,?_⟩;split at h
    ·cases h
    ·rename_i hne;refine(hj rest f' st' r h).mono ?_;rintro e3 f3 s3 hq3;cases e3 with
     |goto l3=>exact absurd (h.trans (congrArg some hq3.symm)) (hne _ _ _)
     |_=>exact hq3
   ·cases h
  ·rename_i hne;cases ha:aS P call jmp lim ro c f st with
   |none=>rw[ha]at h;cases h
   |some q=>
    rw[ha]at h;cases h;refine(bv hm hc ro hj c f st _ ha).mono ?_;rintro e f2 s2 hq;cases e with
    |goto l=>exact absurd (ha.trans (congrArg some hq.symm)) (hne _ _ _)
    |_=>exact hq
 |.goto _,f,st,r,h=>by simp only[aS,ad]at h;exact kV h
 |.refuse _,f,st,r,h=>by simp[aS]at h
theorem eq(hm:P.follows .mixedOrders=true)(hc:a9 P call)(ro:Option Nat)(c:Code)(f:Fr)(st:St)(r:Exit×Fr×St)(h:gT P call lim ro c f st=some r):CodeSat P ro c f st (fun e f' s'=>(e,f',s')=r):=
 bv hm hc ro (fun c f st r h=>bv hm hc ro (fun c f st r h=>by cases h) c f st r h) c f st r h
theorem ia(hm:P.follows .mixedOrders=true)(hc:a9 P call){g:FuncId}{args:List V}{r:V×St}(h:jV P call lim g args st=some r):FnSat P g args st (Is r):=by
 unfold jV at h;split at h
 ·rename_i fn hf;split at h
  ·rename_i c hb;cases hl:Nat.ble args.length fn.ntmps with
   |false=>rw[hl]at h;cases h
   |true=>
    rw[hl,ac]at h;refine fn_sat hf hb (aD hl) ?_;split at h
    ·rename_i f1 st1 he;refine(eq hm hc none c _ st _ he).mono ?_;rintro e f2 s2 hq;cases hq;exact⟨.inl rfl,r.1,r.2,h,rfl⟩
    ·rename_i f1 st1 he;refine(eq hm hc none c _ st _ he).mono ?_;rintro e f2 s2 hq;cases hq;exact⟨.inr rfl,r.1,r.2,h,rfl⟩
    ·cases h
  ·cases h
 ·cases h
theorem lP(hm:P.follows .mixedOrders=true)(hc:a9 P call){l:Nat}{args:List V}{r:V×St}(h:kC P call lim l args st=some r):l7 P l args st (Is r):=by
 unfold kC at h;split at h
 ·rename_i sz T ps as bd dn hl;cases hb:(Nat.beq args.length ps.size&&ps.toList.all (fun t=>Nat.blt t sz))with
  |false=>rw[hb]at h;cases h
  |true=>
   rw[hb,ac]at h;simp only[af]at hb;split at h
   ·rename_i f1 s1 ha;split at h
    ·rename_i sz' T' ps' as' bd' dn' hl1;split at h
     ·rename_i e f2 s2 hbody;split at h
      ·rename_i stt pend sz2 T2 ps2 as2 bd2 dn2 j hl2 hj;cases h;refine mC hl (aC hb.1) hb.2 ((eq hm hc (some l) as _ st _ ha).mono ?_);rintro e1 g1 q1 hq;cases hq;refine⟨sz',T',ps',as',bd',dn',hl1,(eq hm hc (some l) bd _ _ _ hbody).mono ?_⟩;rintro e3 g3 q3 hq;cases hq;exact⟨j,stt,pend,sz2,T2,ps2,as2,bd2,dn2,hj,hl2,rfl⟩
      ·cases h
     ·cases h
    ·cases h
   ·cases h
 ·cases h
theorem E_ok(hm:P.follows .mixedOrders=true){ct:Call}(hct:a9 P ct)(lim:Nat):∀n,a9 P (E P ct lim n)
 |0=>fun tgt args st r h=>by cases h
 |n+1=>fun tgt args st r h=>by
  simp only[E,hU]at h;split at h
  ·rename_i q hq;cases h;exact hct tgt args st _ hq
  ·cases tgt with
   |fn g=>exact ia hm (E_ok hm hct lim n) h
   |yld l=>exact lP hm (E_ok hm hct lim n) h
def n7:Call:=fun _ _ _=>none
theorem lq:a9 P n7:=fun _ _ _ _ h=>by cases h
theorem law_of_sat{g:FuncId}{args:List V}{rargs:List Value}(h:FnSat P g args [] (fun v _=>v=.bool true))(ha:ak [] args=some rargs)(w:World)(hg:GOk w.heap.size w:=by exact GOk.none w (fun _=>rfl)):
  Calls P g rargs.toArray w (fun e w'=>e=.returned (.bool true)∧Below w.heap.size w w'):=by
 refine(h w.heap.size w [] w rargs ha (Rel.empty w hg)).mono ?_;rintro e w' ⟨v',y,m',st',rfl,_,hy,hr,rfl⟩;cases ce hy;exact⟨rfl,hr.below⟩
end
end Go.Vm
namespace Go.Vm
variable [G:Glob] [Φ:Frz]
open Go.RowKit
def Sure{α:Type}(x:Option α)(k:α→Prop):Prop:=∃a,x=some a∧k a
def must(b:Bool)(A:Prop):Prop:=bif b then A else False
theorem aA{b:Bool}{A:Prop}(h:must b A):b=true∧A:=by
 cases b with
 |true=>exact⟨rfl,h⟩
 |false=>exact h.elim
theorem ah{b:Bool}{A:Prop}(hb:b=true)(h:A):must b A:=by subst hb;exact h
theorem ao{b:Bool}{A B:Prop}(h1:b=true→A)(h2:b=false→B):(bif b then A else B):=by
 cases b with
 |true=>exact h1 rfl
 |false=>exact h2 rfl
theorem av{b:Bool}{A B:Prop}(h:bif b then A else B):(b=true∧A)∨(b=false∧B):=by
 cases b with
 |true=>exact .inl ⟨rfl,h⟩
 |false=>exact .inr ⟨rfl,h⟩
theorem Sure.mono{α:Type}{x:Option α}{k k':α→Prop}(h:Sure x k)(hk:∀a,k a→k' a):Sure x k':=let ⟨a,h1,h2⟩:=h;⟨a,h1,hk a h2⟩
def optK{α:Type}(x:Option α)(k:α→Prop):Prop:=match x with
 |some a=>k a
 |none=>False
theorem bP{α:Type}{x:Option α}{k:α→Prop}(h:optK x k):Sure x k:=by
 cases x with
 |some a=>exact⟨a,rfl,h⟩
 |none=>exact h.elim
def arithK(op:BinOp)(k:IntKind)(a b:Int)(K:V→Prop):Prop:=
 match op with
 |.quo=>must (!(b==0)) (K (.int k (k.wrap (a.tdiv b))))
 |.rem=>must (!(b==0)) (K (.int k (a.tmod b)))
 |op=>optK (iX op k a b) K
theorem arithK_ok{op:BinOp}{k:IntKind}{a b:Int}{K:V→Prop}(h:arithK op k a b K):Sure (iX op k a b) K:=by
 unfold arithK at h;split at h
 ·obtain⟨h1,h2⟩:=aA h;have hb:¬b=0:=by simpa using h1
  exact⟨_,by simp[iX,hb],h2⟩
 ·obtain⟨h1,h2⟩:=aA h;have hb:¬b=0:=by simpa using h1
  exact⟨_,by simp[iX,hb],h2⟩
 ·exact bP h
def nL(op:BinOp)(k:IntKind)(a b:Int)(K:V→Prop):Prop:=
 match op with
 |.shl=>must (decide (0≤b)) (K (.int k (k.wrap (a*2^(min b.toNat k.bits)))))
 |.shr=>must (decide (0≤b)) (K (.int k (a.fdiv (2^(min b.toNat k.bits)))))
 |_=>False
theorem mw{op:BinOp}{k:IntKind}{a b:Int}{K:V→Prop}(h:nL op k a b K):Sure (iG op k a b) K:=by
 unfold nL at h;split at h
 ·obtain⟨h1,h2⟩:=aA h;have hb:¬b<0:=by have:=a8 h1;omega
  exact⟨_,by simp[iG,hb],h2⟩
 ·obtain⟨h1,h2⟩:=aA h;have hb:¬b<0:=by have:=a8 h1;omega
  exact⟨_,by simp[iG,hb],h2⟩
 ·exact h.elim
def strK(op:BinOp)(a b:List UInt8)(K:V→Prop):Prop:=
 match op with
 |.add=>must (Nat.ble (a.length+b.length) 9223372036854775807) (K (.str (a++b)))
 |op=>optK (strV op a b) K
theorem strK_ok{op:BinOp}{a b:List UInt8}{K:V→Prop}(h:strK op a b K):Sure (strV op a b) K:=by
 unfold strK at h;split at h
 ·obtain⟨h1,h2⟩:=aA h;have:=aD h1;exact⟨_,by simp only[strV];rw[if_pos this],h2⟩
 ·exact bP h
def fQ(P:Program)(f:TypeId→V→V→(Bool→Prop)→Prop)(xs ys:List V):List Field→(Bool→Prop)→Prop
 |[],K=>K true
 |g::r,K=>if g.name== "_" then fQ P f xs ys r K else
  match fN P g.type xs g.offset,fN P g.type ys g.offset with
  |some a,some b=>f g.type a b (fun t=>bif t then fQ P f xs ys r K else K false)
  |_,_=>False
def oD(P:Program)(f:TypeId→V→V→(Bool→Prop)→Prop)(e:TypeId)(s:Nat)(xs ys:List V):Nat→Nat→(Bool→Prop)→Prop
 |_,0,K=>K true
 |i,k+1,K=>match fN P e xs (i*s),fN P e ys (i*s)with
  |some a,some b=>f e a b (fun t=>bif t then oD P f e s xs ys (i+1) k K else K false)
  |_,_=>False
def eqK(P:Program):Nat→TypeId→V→V→(Bool→Prop)→Prop
 |0,_,_,_,_=>False
 |d+1,t,x,y,K=>match P.underlying t,x,y with
  |some (.struct fs),.agg xs,.agg ys=>if P.stoodInHeld t then False else fQ P (eqK P d) xs ys fs.toList K
  |some (.array n e),.agg xs,.agg ys=>match bw P e with
   |some s=>oD P (eqK P d) e s xs ys 0 n K
   |none=>False
  |_,_,_=>optK (eqV P (d+1) t x y) K
theorem gi{P:Program}{f:TypeId→V→V→(Bool→Prop)→Prop}{g:TypeId→V→V→Option Bool}(hf:∀t x y K,f t x y K→Sure (g t x y) K){xs ys:List V}:∀(l:List Field) (K:Bool→Prop),fQ P f xs ys l K→Sure (dH P g xs ys l) K
 |[],K,h=>⟨true,rfl,h⟩
 |q::r,K,h=>by
  simp only[fQ]at h;simp only[dH];by_cases hn:(q.name== "_")=true
  ·rw[if_pos hn]at h ⊢;exact gi hf r K h
  ·rw[if_neg hn]at h ⊢;split at h
   ·rename_i a b ha hb;obtain⟨t,h1,h2⟩:=hf _ _ _ _ h;simp only[ha,hb,h1];rcases av h2 with⟨rfl,h2⟩|⟨rfl,h2⟩
    ·exact gi hf r K h2
    ·exact⟨false,rfl,h2⟩
   ·exact h.elim
theorem nm{P:Program}{f:TypeId→V→V→(Bool→Prop)→Prop}{g:TypeId→V→V→Option Bool}(hf:∀t x y K,f t x y K→Sure (g t x y) K){e:TypeId}{s:Nat}{xs ys:List V}:∀(k i:Nat) (K:Bool→Prop),oD P f e s xs ys i k K→Sure (iV P g e s xs ys i k) K
 |0,i,K,h=>⟨true,rfl,h⟩
 |k+1,i,K,h=>by
  simp only[oD]at h;simp only[iV];split at h
  ·rename_i a b ha hb;obtain⟨t,h1,h2⟩:=hf _ _ _ _ h;simp only[ha,hb,h1];rcases av h2 with⟨rfl,h2⟩|⟨rfl,h2⟩
   ·exact nm hf k (i+1) K h2
   ·exact⟨false,rfl,h2⟩
  ·exact h.elim
theorem oC{P:Program}:∀(d:Nat) (t:TypeId) (x y:V) (K:Bool→Prop),eqK P d t x y K→Sure (eqV P d t x y) K
 |0,_,_,_,_,h=>h.elim
 |d+1,t,x,y,K,h=>by
  simp only[eqK]at h;split at h
  ·rename_i fs xs ys hu;by_cases hs:P.stoodInHeld t=true
   ·rw[if_pos hs]at h;exact h.elim
   ·rw[if_neg hs]at h;obtain⟨b,h1,h2⟩:=gi (fun t x y K h=>oC d t x y K h) _ K h;exact⟨b,by simp only[eqV,hu];rw[if_neg hs];exact h1,h2⟩
  ·rename_i n e xs ys hu;split at h
   ·rename_i s hs;obtain⟨b,h1,h2⟩:=nm (fun t x y K h=>oC d t x y K h) _ _ K h;exact⟨b,by simp only[eqV,hu,hs];exact h1,h2⟩
   ·exact h.elim
  ·exact bP h
def binK(P:Program)(op:BinOp)(t:TypeId)(u v:V)(K:V→Prop):Prop:=
 match u,v with
 |.int k a,.int k' b=>match op with
  |.shl=>nL .shl k a b K
  |.shr=>nL .shr k a b K
  |op=>if k=k' then arithK op k a b K else False
 |.str a,.str b=>strK op a b K
 |.agg xs,.agg ys=>if P.eqGuardType P.depth t then False else
  match op with
  |.eql=>eqK P 9 t (.agg xs) (.agg ys) (fun b=>K (.bool b))
  |.neq=>eqK P 9 t (.agg xs) (.agg ys) (fun b=>K (.bool (!b)))
  |_=>False
 |u,v=>optK (binV P op t u v) K
theorem binK_ok{P:Program}{op:BinOp}{t:TypeId}{u v:V}{K:V→Prop}(h:binK P op t u v K):Sure (binV P op t u v) K:=by
 unfold binK at h;split at h
 ·rename_i k a k' b;split at h
  ·exact mw h
  ·exact mw h
  ·rename_i h1 h2;split at h
   ·rename_i hk;obtain⟨r,h3,h4⟩:=arithK_ok h;refine⟨r,?_,h4⟩;cases op<;>first|(exact absurd rfl h1)|(exact absurd rfl h2)|(simp only[binV];rw[if_pos hk];exact h3)
   ·exact h.elim
 ·exact strK_ok h
 ·rename_i xs ys;by_cases hg:P.eqGuardType P.depth t=true
  ·rw[if_pos hg]at h;exact h.elim
  ·rw[if_neg hg]at h;split at h
   ·obtain⟨b,h1,h2⟩:=oC _ _ _ _ _ h;exact⟨.bool b,by simp only[binV];rw[if_neg hg,h1],h2⟩
   ·obtain⟨b,h1,h2⟩:=oC _ _ _ _ _ h;exact⟨.bool (!b),by simp only[binV];rw[if_neg hg,h1],h2⟩
   ·exact h.elim
 ·exact bP h
def indexK(P:Program)(t:TypeId)(v i:V)(K:V→Prop):Prop:=
 match P.underlying t,v,i with
 |some .string,.str l,.int _ k=>must (decide (0≤k)&&Nat.blt k.toNat l.length) (K (.int .u8 (l.getD k.toNat 0).toNat))
 |some (.array n e),.agg cs,.int _ k=>match bw P e,jN P e with
  |some 1,some false=>must (decide (0≤k)&&decide (k<n)&&Nat.blt k.toNat cs.length) (K (cs.getD k.toNat (.bool false)))
  |_,_=>optK (gP P t v i) K
 |_,_,_=>optK (gP P t v i) K
theorem indexK_ok{P:Program}{t:TypeId}{v i:V}{K:V→Prop}(h:indexK P t v i K):Sure (gP P t v i) K:=by
 unfold indexK at h;split at h
 ·rename_i l kd k hu;obtain⟨h1,h2⟩:=aA h;simp only[af,decide_eq_true_eq]at h1;have hlt:=dt h1.2;refine⟨_,?_,h2⟩;simp only[gP,hu];rw[if_pos h1.1,List.getElem?_eq_getElem hlt,List.getD_eq_getElem?_getD,List.getElem?_eq_getElem hlt];rfl
 ·rename_i n e cs kd k hu;split at h
  ·rename_i hs ha;obtain⟨h1,h2⟩:=aA h;simp only[af,decide_eq_true_eq]at h1;have hlt:=dt h1.2;refine⟨_,?_,h2⟩;simp only[gP,hu,hs];rw[if_pos h1.1,Nat.mul_one];simp only[fN,ha];rw[List.getElem?_eq_getElem hlt,List.getD_eq_getElem?_getD,List.getElem?_eq_getElem hlt];rfl
  ·exact bP h
 ·exact bP h
def i7:Nat→Nat→Int→(Nat→Prop)→Prop
 |0,_,_,_=>False
 |n+1,j,k,K=>bif k==(j:Int)then K j else i7 n (j+1) k K
theorem iE:∀(n j:Nat) (k:Int) (K:Nat→Prop),i7 n j k K→K k.toNat
 |0,_,_,_,h=>h.elim
 |n+1,j,k,K,h=>by
  simp only[i7]at h;rcases av h with⟨h1,h⟩|⟨_,h⟩
  ·have h1:k=(j:Int):=by simpa using h1
   rw[h1,bK];exact h
  ·exact iE n (j+1) k K h
def iR(sx:Bool)(P:Program)(t:TypeId)(v i:V)(K:V→Prop):Prop:=
 match P.underlying t,v,i with
 |some (.slice e),.slice b off len ex c z,.int _ k=>match bw P e with
  |some s=>must (decide (0≤k)&&decide (k<len)) (bif sx&&Nat.ble len 4 then i7 len 0 k (fun q=>K (.ptr b (off+q*s)))else K (.ptr b (off+k.toNat*s)))
  |none=>False
 |some (.array n e),.ptr b off,.int _ k=>match bw P e with
  |some s=>must (decide (0≤k)&&decide (k<n)) (K (.ptr b (off+k.toNat*s)))
  |none=>False
 |some (.array n e),.gp b off,.int _ k=>match bw P e with
  |some s=>must (decide (0≤k)&&decide (k<n)) (bif Nat.ble n 4 then i7 n 0 k (fun q=>K (.gp b (off+q*s)))else K (.gp b (off+k.toNat*s)))
  |none=>False
 |some (.slice e),.lst x n cs,.int _ k=>match bw P e with
  |some s=>must (decide (0≤k)&&decide (k<n)) (K (.lptr x n cs (k.toNat*s)))
  |none=>False
 |some (.array n e),.lptr x j cs off,.int _ k=>match bw P e with
  |some s=>must (decide (0≤k)&&decide (k<n)) (K (.lptr x j cs (off+k.toNat*s)))
  |none=>False
 |some (.slice e),.nos b n,.int _ k=>match bw P e with
  |some s=>must (decide (0≤k)&&decide (k<n)) (K (.ptr b (k.toNat*s)))
  |none=>False
 |_,_,_=>False
theorem me{sx:Bool}{P:Program}{t:TypeId}{v i:V}{K:V→Prop}(h:iR sx P t v i K):Sure (cv P t v i) K:=by
 unfold iR at h;split at h
 ·rename_i e b off len ex c z kd k hu;split at h
  ·rename_i s hs;obtain⟨h1,h2⟩:=aA h;simp only[af,decide_eq_true_eq]at h1;have h2:K (.ptr b (off+k.toNat*s)):=by
    rcases av h2 with⟨_,h2⟩|⟨_,h2⟩
    ·exact iE len 0 k (fun q=>K (.ptr b (off+q*s))) h2
    ·exact h2
   exact⟨_,by simp only[cv,hu,hs];rw[if_pos h1],h2⟩
  ·exact h.elim
 ·rename_i n e b off kd k hu;split at h
  ·rename_i s hs;obtain⟨h1,h2⟩:=aA h;simp only[af,decide_eq_true_eq]at h1;exact⟨_,by simp only[cv,hu,hs];rw[if_pos h1],h2⟩
  ·exact h.elim
 ·rename_i n e b off kd k hu;split at h
  ·rename_i s hs;obtain⟨h1,h2⟩:=aA h;simp only[af,decide_eq_true_eq]at h1;have h2:K (.gp b (off+k.toNat*s)):=by
    rcases av h2 with⟨_,h2⟩|⟨_,h2⟩
    ·exact iE n 0 k (fun q=>K (.gp b (off+q*s))) h2
    ·exact h2
   exact⟨_,by simp only[cv,hu,hs];rw[if_pos h1],h2⟩
  ·exact h.elim
 ·rename_i e x n cs kd k hu;split at h
  ·rename_i s hs;obtain⟨h1,h2⟩:=aA h;simp only[af,decide_eq_true_eq]at h1;exact⟨_,by simp only[cv,hu,hs];rw[if_pos h1],h2⟩
  ·exact h.elim
 ·rename_i n e x j cs off kd k hu;split at h
  ·rename_i s hs;obtain⟨h1,h2⟩:=aA h;simp only[af,decide_eq_true_eq]at h1;exact⟨_,by simp only[cv,hu,hs];rw[if_pos h1],h2⟩
  ·exact h.elim
 ·rename_i e b n kd k hu;split at h
  ·rename_i s hs;obtain⟨h1,h2⟩:=aA h;simp only[af,decide_eq_true_eq]at h1;exact⟨_,by simp only[cv,hu,hs];rw[if_pos h1],h2⟩
  ·exact h.elim
 ·exact h.elim
def fh(d:Nat)(o:Option V)(K:Nat→Prop):Prop:=
 match o with
 |none=>K d
 |some (.int _ k)=>must (decide (0≤k)) (K k.toNat)
 |_=>False
theorem dk{d:Nat}{o:Option V}{K:Nat→Prop}(h:fh d o K):Sure (bD d o) K:=by
 unfold fh at h;split at h
 ·exact⟨_,rfl,h⟩
 ·obtain⟨h1,h2⟩:=aA h;exact⟨_,by simp only[bD];rw[if_pos (a8 h1)],h2⟩
 ·exact h.elim
def sliceK(P:Program)(t:TypeId)(v:V)(lo hi:Option V)(K:V→Prop):Prop:=
 match P.underlying t,v with
 |some .string,.str s=>fh 0 lo fun l=>fh s.length hi fun h=>must (Nat.ble l h&&Nat.ble h s.length) (K (.str ((s.drop l).take (h-l))))
 |some (.slice e),.slice b off len ex c z=>match bw P e with
  |some s=>fh 0 lo fun l=>fh len hi fun h=>must (Nat.ble l h&&Nat.ble h len) (K (.slice b (off+l*s) (h-l) ex (if ex then c-l else c+l) (if l=0 then z else off)))
  |none=>False
 |some (.slice e),.nilSlice=>match bw P e with
  |some _=>fh 0 lo fun l=>fh 0 hi fun h=>must (Nat.beq l 0&&Nat.beq h 0) (K .nilSlice)
  |none=>False
 |some (.slice e),.lst x n cs=>match bw P e with
  |some s=>cB s fun s=>fh 0 lo fun l=>fh n hi fun h=>must (Nat.ble l h&&Nat.ble h n) (K (.lst (ec x l h s) (h-l) ((cs.drop (l*s)).take ((h-l)*s))))
  |none=>False
 |_,_=>optK (fV P t v lo hi) K
theorem sliceK_ok{P:Program}{t:TypeId}{v:V}{lo hi:Option V}{K:V→Prop}(h:sliceK P t v lo hi K):Sure (fV P t v lo hi) K:=by
 unfold sliceK at h;split at h
 ·rename_i s hu;obtain⟨l,h1,h2⟩:=dk h;obtain⟨g,h3,h4⟩:=dk h2;obtain⟨h5,h6⟩:=aA h4;simp only[af]at h5;exact⟨_,by simp only[fV,hu,h1,h3];rw[if_pos ⟨aD h5.1,aD h5.2⟩],h6⟩
 ·rename_i e b off len ex c z hu;split at h
  ·rename_i s hs;obtain⟨l,h1,h2⟩:=dk h;obtain⟨g,h3,h4⟩:=dk h2;obtain⟨h5,h6⟩:=aA h4;simp only[af]at h5;exact⟨_,by simp only[fV,hu,h1,h3,hs];rw[if_pos ⟨aD h5.1,aD h5.2⟩],h6⟩
  ·exact h.elim
 ·rename_i e hu;split at h
  ·rename_i s hs;obtain⟨l,h1,h2⟩:=dk h;obtain⟨g,h3,h4⟩:=dk h2;obtain⟨h5,h6⟩:=aA h4;rw[af]at h5;rw[aC h5.1]at h1;rw[aC h5.2]at h3;exact⟨_,by simp only[fV,hu,h1,h3,hs],h6⟩
  ·exact h.elim
 ·rename_i e x n cs hu;split at h
  ·rename_i s hs;rw[cA]at h;obtain⟨l,h1,h2⟩:=dk h;obtain⟨g,h3,h4⟩:=dk h2;obtain⟨h5,h6⟩:=aA h4;simp only[af]at h5;exact⟨_,by simp only[fV,hu,h1,h3,hs];rw[if_pos ⟨aD h5.1,aD h5.2⟩],h6⟩
  ·exact h.elim
 ·exact bP h
def nK(P:Program)(t:TypeId)(v:V)(lo:Option V)(hi mx:V)(K:V→Prop):Prop:=
 match P.underlying t,v,hi,mx with
 |some (.slice e),.lst x n cs,.int _ h,.int _ k=>match bw P e with
  |some s=>fh 0 lo fun l=>must (decide (0≤h)&&(decide (0≤k)&&(Nat.ble l h.toNat&&(Nat.ble h.toNat k.toNat&&Nat.ble k.toNat n)))) (K (.lst (gZ x l h.toNat k.toNat s) (h.toNat-l) ((cs.drop (l*s)).take ((h.toNat-l)*s))))
  |none=>False
 |_,_,_,_=>optK (g7 P t v lo hi mx) K
theorem slice3K_ok{P:Program}{t:TypeId}{v hi mx:V}{lo:Option V}{K:V→Prop}(h:nK P t v lo hi mx K):Sure (g7 P t v lo hi mx) K:=by
 unfold nK at h;split at h
 ·rename_i e x n cs k1 h' k2 k hu;split at h
  ·rename_i s hs;obtain⟨l,h1,h2⟩:=dk h;obtain⟨h5,h6⟩:=aA h2;simp only[af,decide_eq_true_eq]at h5;exact⟨_,by simp only[g7,hu,h1,hs];rw[if_pos ⟨h5.1,h5.2.1,aD h5.2.2.1,aD h5.2.2.2.1,aD h5.2.2.2.2⟩],h6⟩
  ·exact h.elim
 ·exact bP h
def oF(st:St)(b off n:Nat)(K:List V→Prop):Prop:=
 match st[b]? with
 |some k=>must (Nat.ble (off+n) k.cs.length) (K ((k.cs.drop off).take n))
 |none=>False
theorem nq{st:St}{b off n:Nat}{K:List V→Prop}(h:oF st b off n K):Sure (bA st b off n) K:=by
 unfold oF at h;split at h
 ·rename_i k hk;obtain⟨h1,h2⟩:=aA h;exact⟨_,by simp only[bA,hk];rw[if_pos (aD h1)],h2⟩
 ·exact h.elim
def aj(k:IntKind):V→Bool
 |.int k' _=>decide (k'=k)
 |_=>false
def au:V→Int
 |.int _ n=>n
 |_=>0
def aw:V→Bool
 |.str _=>true
 |_=>false
def al:V→List UInt8
 |.str l=>l
 |_=>[]
def isBoolV:V→Bool
 |.bool _=>true
 |_=>false
def boolOfV:V→Bool
 |.bool b=>b
 |_=>false
def isLstV:V→Bool
 |.lst .. =>true
 |_=>false
def xOfV:V→Value
 |.lst x _ _=>x
 |_=>.nilIface
def nOfV:V→Nat
 |.lst _ n _=>n
 |_=>0
def csOfV:V→List V
 |.lst _ _ cs=>cs
 |_=>[]
def typed(z:Bool)(d:Option TypeDesc)(v:V)(K:V→Prop):Prop:=
 match d with
 |some (.int k)=>must (aj k v) (K (.int k (au v)))
 |some .string=>must (aw v) (K (.str (al v)))
 |some .bool=>must (isBoolV v) (K (.bool (boolOfV v)))
 |some (.slice _)=>bif z then must (isLstV v) (K (.lst (xOfV v) (nOfV v) (csOfV v)))else K v
 |_=>K v
theorem typed_ok{z:Bool}{d:Option TypeDesc}{v:V}{K:V→Prop}(h:typed z d v K):K v:=by
 unfold typed at h;split at h
 ·obtain⟨h1,h2⟩:=aA h;cases v<;>simp[aj]at h1;subst h1;exact h2
 ·obtain⟨h1,h2⟩:=aA h;cases v<;>simp[aw]at h1;exact h2
 ·obtain⟨h1,h2⟩:=aA h;cases v<;>simp[isBoolV]at h1;exact h2
 ·rcases av h with⟨_,h⟩|⟨_,h⟩
  ·obtain⟨h1,h2⟩:=aA h;cases v<;>simp[isLstV]at h1;exact h2
  ·exact h
 ·exact h
def jr(z:Bool)(P:Program)(cs:List V)(off:Nat):List Field→Nat→(List V→Prop)→Prop
 |[],_,K=>K []
 |g::r,i,K=>typed z (P.underlying g.type) (cs.getD (off+i) (.bool false)) (fun v=>jr z P cs off r (i+1) (fun l=>K (v::l)))
theorem lO{z:Bool}{P:Program}{cs:List V}{off:Nat}:∀(fs:List Field) (i:Nat) (K:List V→Prop),off+i+fs.length≤cs.length→jr z P cs off fs i K→K ((cs.drop (off+i)).take fs.length)
 |[],i,K,_,h=>by simpa[jr]using h
 |g::r,i,K,hl,h=>by
  simp only[jr]at h;simp only[List.length_cons]at hl;have h1:=typed_ok h;have h2:=lO r (i+1) _ (by omega) h1;have hlt:off+i<cs.length:=by omega
  rw[List.getD_eq_getElem?_getD,List.getElem?_eq_getElem hlt,Option.getD_some]at h2;rw[List.drop_eq_getElem_cons hlt,List.length_cons,List.take_succ_cons];exact h2
def aggK(z:Bool)(P:Program)(st:St)(t:TypeId)(n b off:Nat)(K:List V→Prop):Prop:=
 match P.underlying t with
 |some (.struct fs)=>bif Nat.beq fs.toList.length n then match st[b]? with
   |some k=>must (Nat.ble (off+n) k.cs.length) (jr z P k.cs off fs.toList 0 K)
   |none=>False
  else oF st b off n K
 |_=>oF st b off n K
theorem aggK_ok{z:Bool}{P:Program}{st:St}{t:TypeId}{n b off:Nat}{K:List V→Prop}(h:aggK z P st t n b off K):Sure (bA st b off n) K:=by
 unfold aggK at h;split at h
 ·rename_i fs _;rcases av h with⟨hn,h⟩|⟨_,h⟩
  ·have hn:=aC hn;split at h
   ·rename_i k hk;obtain⟨h1,h2⟩:=aA h;have hle:=aD h1;have:=lO fs.toList 0 K (by omega) h2;rw[Nat.add_zero,hn]at this;exact⟨_,by simp only[bA,hk];rw[if_pos hle],this⟩
   ·exact h.elim
  ·exact nq h
 ·exact nq h
def loadK(z:Bool)(P:Program)(st:St)(t:TypeId)(b off:Nat)(K:V→Prop):Prop:=
 match jN P t with
 |some true=>match bw P t with
  |some n=>aggK z P st t n b off fun l=>K (.agg l)
  |none=>False
 |some false=>match st[b]? with
  |some k=>must (Nat.blt off k.cs.length) (typed z (P.underlying t) (k.cs.getD off (.bool false)) K)
  |none=>False
 |none=>False
theorem lE{z:Bool}{P:Program}{st:St}{t:TypeId}{b off:Nat}{K:V→Prop}(h:loadK z P st t b off K):Sure (e9 P st t b off) K:=by
 unfold loadK at h;split at h
 ·rename_i ha;split at h
  ·rename_i n hn;obtain⟨l,h1,h2⟩:=aggK_ok h;exact⟨_,by simp only[e9,ha,hn,h1],h2⟩
  ·exact h.elim
 ·rename_i ha;split at h
  ·rename_i k hk;obtain⟨h1,h2⟩:=aA h;have hlt:=dt h1;refine⟨_,?_,typed_ok h2⟩;simp only[e9,ha,hk];rw[List.getElem?_eq_getElem hlt,List.getD_eq_getElem?_getD,List.getElem?_eq_getElem hlt];rfl
  ·exact h.elim
 ·exact h.elim
def ot:V→Bool
 |.int .u8 _=>true
 |_=>false
def byteOf:V→UInt8
 |.int .u8 n=>UInt8.ofNat n.toNat
 |_=>0
theorem nw:∀{l:List V},l.all ot=true→gX l=some (l.map byteOf)
 |[],_=>rfl
 |v::r,h=>by
  simp only[List.all_cons,af]at h;have:=nw h.2;cases v with
  |int k n=>cases k<;>first|(simp[ot]at h;done)|simp[gX,byteV,this,byteOf]
  |_=>simp[ot]at h
def convK(P:Program)(st:St)(s d:TypeId)(v:V)(K:V→Prop):Prop:=
 match P.underlying s,P.underlying d,v with
 |some (.slice e),some .string,.slice b off len ex c z=>match P.underlying e with
  |some (.int .u8)=>match st[b]? with
   |some k=>must (Nat.ble (off+len) k.cs.length) (must (((k.cs.drop off).take len).all ot) (K (.str (((k.cs.drop off).take len).map byteOf))))
   |none=>False
  |_=>False
 |_,_,_=>optK (lV P st s d v) K
theorem convK_ok{P:Program}{st:St}{s d:TypeId}{v:V}{K:V→Prop}(h:convK P st s d v K):Sure (lV P st s d v) K:=by
 unfold convK at h;split at h
 ·rename_i e b off len ex c z hs hd;split at h
  ·rename_i he;split at h
   ·rename_i k hk;obtain⟨h1,h2⟩:=aA h;obtain⟨h3,h4⟩:=aA h2;refine⟨_,?_,h4⟩;simp only[lV,hs,hd,he];cases len with
    |zero=>simp
    |succ len=>
     simp only[bA,hk];rw[if_pos (aD h1)];simp only[nw h3]
   ·exact h.elim
  ·exact h.elim
 ·exact bP h
def okC(d:TypeDesc):List V→Bool
 |[]=>true
 |[_]=>false
 |a::_::r=>keyV d a&&okC d r
theorem okC_find{d:TypeDesc}(k:V):∀(n:Nat) {cs:List V},cs.length≤n→okC d cs=true→∃o,d8 d k cs=some o
 |_,[],_,_=>⟨none,rfl⟩
 |_,[_],_,h=>by cases h
 |0,_::_::_,hn,_=>by simp at hn
 |n+1,a::v::r,hn,h=>by
  simp only[okC,af]at h;obtain⟨o,ho⟩:=okC_find k n (cs:=r) (by simp at hn;omega) h.2;simp only[d8,h.1,ac,ho];cases iA k a<;>exact⟨_,rfl⟩
def findK(d:TypeDesc)(k:V):List V→(Option V→Prop)→Prop
 |[],K=>K none
 |[_],_=>False
 |a::v::r,K=>bif keyV d a&&okC d r then(bif iA k a then K (some v)else findK d k r K)else False
theorem findK_ok{d:TypeDesc}{k:V}:∀(n:Nat) {cs:List V} {K:Option V→Prop},cs.length≤n→findK d k cs K→∃o,d8 d k cs=some o∧K o
 |_,[],K,_,h=>⟨none,rfl,h⟩
 |_,[_],K,_,h=>h.elim
 |0,_::_::_,_,hn,_=>by simp at hn
 |n+1,a::v::r,K,hn,h=>by
  simp only[findK]at h;rcases av h with⟨h1,h⟩|⟨_,h⟩
  ·rw[af]at h1;rcases av h with⟨h2,h⟩|⟨h2,h⟩
   ·obtain⟨o,ho⟩:=okC_find k n (cs:=r) (by simp at hn;omega) h1.2;refine⟨some v,?_,h⟩;simp only[d8,h1.1,ac,h2,ho]
   ·obtain⟨o,ho,hK⟩:=findK_ok n (cs:=r) (by simp at hn;omega) h;exact⟨o,by simp only[d8,h1.1,ac,h2,ai];exact ho,hK⟩
  ·exact h.elim
def m4(P:Program)(st:St)(t:TypeId)(x k:V)(ok:Bool)(K:V→Prop):Prop:=
 match P.underlying t with
 |some (.map kt et)=>match P.underlying kt,fm P et with
  |some d,some z=>bif keyV d k then(match x with
   |.nilMap=>K (outK ok z false)
   |.map b=>match st[b]? with
    |some (.mp cs)=>findK d k cs fun o=>match o with
     |some v=>K (outK ok v true)
     |none=>K (outK ok z false)
    |_=>False
   |_=>False)else False
  |_,_=>False
 |_=>False
theorem lB{P:Program}{st:St}{t:TypeId}{x k:V}{ok:Bool}{K:V→Prop}(h:m4 P st t x k ok K):Sure (lookV P st t x k ok) K:=by
 unfold m4 at h;unfold lookV;split at h
 case h_2=>exact h.elim
 rename_i kt et hu;split at h
 case h_2=>exact h.elim
 rename_i d z hd hz;simp only[hu,hd,hz];rcases av h with⟨hk,h⟩|⟨_,h⟩
 ·simp only[hk,ac];split at h
  ·exact⟨_,rfl,h⟩
  ·rename_i b;split at h
   ·rename_i cs hb;obtain⟨o,ho,hK⟩:=findK_ok cs.length (Nat.le_refl _) h;simp only[hb,ho];cases o with
    |some v=>exact⟨_,rfl,hK⟩
    |none=>exact⟨_,rfl,hK⟩
   ·exact h.elim
  ·exact h.elim
 ·exact h.elim
class LstFlag where
 z:Bool
 ix:Bool
instance(priority:=low) lstFlag0:LstFlag:=⟨false,false⟩
variable [Z:LstFlag]
def j4(P:Program)(st:St)(ρ:Operand→Option V)(op:Op)(K:V→Prop):Prop:=
 match op with
 |.pick c a b=>match ρ c with
  |some (.bool x)=>bif x then optK (ρ a) K else optK (ρ b) K
  |_=>False
 |.load t x=>match ρ x with
  |some (.ptr b off)=>loadK Z.z P st t b off K
  |some (.gp k off)=>match G.cells k with
   |some cs=>loadK false P [.ro false cs] t 0 off K
   |none=>False
  |some (.lptr _ _ cs off)=>loadK true P [.ro false cs] t 0 off K
  |_=>False
 |.binOp op t x y p=>match ρ x,ρ y with
  |some .nilIface,some .nilIface=>bif jn x||jn y then optK (oa P op t) K else False
  |some u,some v=>binK P op t u v K
  |_,_=>False
 |.convert s d x=>match ρ x with
  |some v=>convK P st s d v K
  |none=>False
 |.slice t x lo hi none=>match ρ x,optV ρ lo,optV ρ hi with
  |some v,some l,some h=>sliceK P t v l h K
  |_,_,_=>False
 |.slice t x lo (some hi) (some mx)=>match ρ x,optV ρ lo,ρ hi,ρ mx with
  |some v,some l,some h,some k=>nK P t v l h k K
  |_,_,_,_=>False
 |.indexAddr t x i=>match ρ x,ρ i with
  |some u,some v=>iR Z.ix P t u v K
  |_,_=>False
 |.index t x i=>match ρ x,ρ i with
  |some u,some v=>indexK P t u v K
  |_,_=>False
 |.lookup t x i ok=>match ρ x,ρ i with
  |some u,some v=>m4 P st t u v ok K
  |_,_=>False
 |op=>optK (aT P st ρ op) K
theorem fM{P:Program}{st:St}{ρ:Operand→Option V}{op:Op}{K:V→Prop}(h:j4 P st ρ op K):Sure (aT P st ρ op) K:=by
 unfold j4 at h;split at h
 ·split at h
  ·rename_i hc;rcases av h with⟨rfl,h⟩|⟨rfl,h⟩
   ·obtain⟨v,h1,h2⟩:=bP h;exact⟨v,by simp only[aT,hc];exact h1,h2⟩
   ·obtain⟨v,h1,h2⟩:=bP h;exact⟨v,by simp only[aT,hc];exact h1,h2⟩
  ·exact h.elim
 ·split at h
  ·rename_i hc;obtain⟨v,h1,h2⟩:=lE h;exact⟨v,by simp only[aT,hc];exact h1,h2⟩
  ·rename_i hc;split at h
   ·rename_i cs hcs;obtain⟨v,h1,h2⟩:=lE h;exact⟨v,by simp only[aT,hc,loadG,hcs];exact h1,h2⟩
   ·exact h.elim
  ·rename_i hc;obtain⟨v,h1,h2⟩:=lE h;exact⟨v,by simp only[aT,hc,loadL];exact h1,h2⟩
  ·exact h.elim
 ·split at h
  ·rename_i hx hy;rcases av h with⟨hc,h⟩|⟨_,h⟩
   ·obtain⟨v,h1,h2⟩:=bP h;exact⟨v,by simp only[aT,hx,hy,hc,ac];exact h1,h2⟩
   ·exact h.elim
  ·rename_i u v hne hx hy;obtain⟨r,h1,h2⟩:=binK_ok h;refine⟨r,?_,h2⟩;simp only[aT,hx,hy];exact h1
  ·exact h.elim
 ·split at h
  ·rename_i hx;obtain⟨v,h1,h2⟩:=convK_ok h;exact⟨v,by simp only[aT,hx];exact h1,h2⟩
  ·exact h.elim
 ·split at h
  ·rename_i hx hl hh;obtain⟨v,h1,h2⟩:=sliceK_ok h;exact⟨v,by simp only[aT,hx,hl,hh];exact h1,h2⟩
  ·exact h.elim
 ·split at h
  ·rename_i hx hl hh hk;obtain⟨v,h1,h2⟩:=slice3K_ok h;exact⟨v,by simp only[aT,hx,hl,hh,hk];exact h1,h2⟩
  ·exact h.elim
 ·split at h
  ·rename_i hx hy;obtain⟨v,h1,h2⟩:=me h;exact⟨v,by simp only[aT,hx,hy];exact h1,h2⟩
  ·exact h.elim
 ·split at h
  ·rename_i hx hy;obtain⟨v,h1,h2⟩:=indexK_ok h;exact⟨v,by simp only[aT,hx,hy];exact h1,h2⟩
  ·exact h.elim
 ·split at h
  ·rename_i hx hy;obtain⟨v,h1,h2⟩:=lB h;exact⟨v,by simp only[aT,hx,hy];exact h1,h2⟩
  ·exact h.elim
 ·exact bP h
end Go.Vm
