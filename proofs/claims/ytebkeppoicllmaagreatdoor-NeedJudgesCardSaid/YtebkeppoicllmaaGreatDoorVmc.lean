/- The virtual machine of this work, continued: the evaluator over values that are not known, tables of functions, loops by a law of their own. -/
import Derived.Test.YtebkeppoicllmaaGreatDoorVmb
import Derived.Deep.Slices
import Derived.ChangeSame
import Derived.OpenShut
set_option linter.unusedVariables false
set_option linter.unusedSectionVars false
namespace Go.Vm
variable [G:Glob] [Φ:Frz] [Z:LstFlag]
open Go.RowKit
def storeK(P:Program)(st:St)(t:TypeId)(p v:V)(K:St→Prop):Prop:=
 match p,cv P t with
 |.ptr b off,some s=>match st[b]? with
  |some (.row cs te sz)=>must (Nat.beq v.cells.length s&&v.cells.all V.one&&Nat.ble (off+v.cells.length) cs.length) (K (st.set b (.row (eH off v.cells cs) te sz)))
  |_=>False
 |_,_=>False
theorem storeK_ok{P:Program}{st:St}{t:TypeId}{p v:V}{K:St→Prop}(h:storeK P st t p v K):Sure (ll P st t p v) K:=by
 unfold storeK at h;split at h
 ·rename_i b off s hs;split at h
  ·rename_i cs te sz hb;obtain⟨h1,h2⟩:=aX h;simp only[ad]at h1;refine⟨_,?_,h2⟩;simp only[ll,hs,hb];rw[if_pos ⟨aP h1.1.1,h1.1.2,aw h1.2⟩]
  ·exact h.elim
 ·exact h.elim
def makeK(P:Program)(st:St)(t:TypeId)(l c:V)(K:V→St→Prop):Prop:=
 match P.underlying t,l,c with
 |some (.slice e),.int _ l,.int _ c=>match P.info? e,iM P e with
  |some i,some z=>must (decide (0≤l)&&decide (l≤c)&&decide (c≤9223372036854775807)&&decide (i.bytes*c≤281474976710656)&&Nat.beq z.cells.length i.size)
    (K (.slice st.length 0 l.toNat false 0 0) (st++[.row (repV z.cells l.toNat) e i.size]))
  |_,_=>False
 |_,_,_=>False
theorem makeK_ok{P:Program}{st:St}{t:TypeId}{l c:V}{K:V→St→Prop}(h:makeK P st t l c K):Sure (sf P st t l c) (fun r=>K r.1 r.2):=by
 unfold makeK at h;split at h
 ·rename_i e kl l kc c hu;split at h
  ·rename_i i z hi hz;obtain⟨h1,h2⟩:=aX h;simp only[ad,decide_eq_true_eq]at h1;refine⟨(_,_),?_,h2⟩;simp only[sf,hu,hi,hz];rw[if_pos ⟨h1.1.1.1.1,h1.1.1.1.2,h1.1.1.2,h1.1.2,aP h1.2⟩]
  ·exact h.elim
 ·exact h.elim
def qM(P:Program)(st:St)(t:TypeId)(s x:V)(K:V→St→Prop):Prop:=
 match s with
 |.slice b 0 len false 0 0=>match P.underlying t with
  |some (.slice e)=>match P.info? e,iM P e with
   |some i,some z=>if 0<i.size∧z.cells.length=i.size then match kX st i.size x with
    |some (n+1,nc)=>if nc.all V.one=true then match st[b]? with
     |some (.row cs te sz)=>if te=e∧sz=i.size then
       must (Nat.beq cs.length (len*sz)) (must (Nat.ble (len+(n+1)) 9223372036854775807&&Nat.ble ((len+(n+1))*i.bytes) 140737488355328)
        (K (.slice st.length 0 (len+(n+1)) false 0 0) (st.set b .dead++[.row (cs++nc) te sz])))
      else False
     |_=>False
     else False
    |some (0,nc)=>K (.slice b 0 len false 0 0) st
    |none=>False
    else False
   |_,_=>False
  |_=>False
 |s=>optK (d9 P st t s x) (fun r=>K r.1 r.2)
theorem appendK0_ok{P:Program}{st:St}{t:TypeId}{s x:V}{K:V→St→Prop}(h:qM P st t s x K):Sure (d9 P st t s x) (fun r=>K r.1 r.2):=by
 unfold qM at h;split at h
 ·split at h
  ·rename_i hu;split at h
   ·rename_i hi hz;split at h
    ·rename_i hsz;split at h
     ·rename_i hn;split at h
      ·rename_i hone;split at h
       ·rename_i cs te sz hb;split at h
        ·rename_i hte;obtain⟨h1,h2⟩:=aX h;obtain⟨h3,h4⟩:=aX h2;rw[ad]at h3;refine⟨(_,_),?_,h4⟩;simp only[d9,hu,hi,hz];rw[if_pos hsz];simp only[hn];rw[if_pos hone];simp only[hb];rw[if_pos ⟨hte.1,hte.2,aw h3.1,aw h3.2⟩,if_pos (aP h1)]
        ·exact h.elim
       ·exact h.elim
      ·exact h.elim
     ·rename_i hn;refine⟨(_,_),?_,h⟩;simp only[d9,hu,hi,hz];rw[if_pos hsz];simp only[hn]
     ·exact h.elim
    ·exact h.elim
   ·exact h.elim
  ·exact h.elim
 ·exact cU h
def td{α:Sort _}:List V→(List V→α)→α
 |[],k=>k []
 |v::r,k=>td r fun r=>k (v::r)
theorem rj{α:Sort _}:∀(l:List V) (k:List V→α),td l k=k l
 |[],k=>rfl
 |v::r,k=>by simp only[td,rj r]
def uF(P:Program)(st:St)(t:TypeId)(s x:V)(K:V→St→Prop):Prop:=
 match x with
 |.lst y n ds=>match P.underlying t with
  |some (.slice e)=>match P.info? e,iM P e with
   |some i,some z=>if 0<i.size∧z.cells.length=i.size then
     bif Nat.beq n 0 then(match s with
      |.nilSlice=>K .nilSlice st
      |.slice b off len ex c z=>K (.slice b off len ex c z) st
      |_=>False)
     else must (Nat.beq ds.length (n*i.size)&&ds.all V.one) (match s with
      |.nilSlice=>must (Nat.ble n 9223372036854775807&&Nat.ble (n*i.bytes) 140737488355328) (K (.slice st.length 0 n false 0 0) (st++[.row ds e i.size]))
      |.slice b 0 len false 0 0=>match st[b]? with
       |some (.row cs te sz)=>if te=e∧sz=i.size then
         must (Nat.beq cs.length (len*sz)) (must (Nat.ble (len+n) 9223372036854775807&&Nat.ble ((len+n)*i.bytes) 140737488355328)
          (K (.slice st.length 0 (len+n) false 0 0) (st.set b .dead++[.row (cs++ds) te sz])))
        else False
       |_=>False
      |.slice b off len true c z=>if len=c then(match co st b off (len*i.size)with
       |some cs=>td cs fun cs=>must (Nat.ble (len+n) 9223372036854775807&&Nat.ble ((len+n)*i.bytes) 140737488355328) (K (.slice st.length 0 (len+n) false 0 0) (st++[.row (cs++ds) e i.size]))
       |none=>False)else False
      |_=>False)
    else False
   |_,_=>False
  |_=>False
 |x=>qM P st t s x K
theorem appendK_ok{P:Program}{st:St}{t:TypeId}{s x:V}{K:V→St→Prop}(h:uF P st t s x K):Sure (d9 P st t s x) (fun r=>K r.1 r.2):=by
 unfold uF at h;split at h
 ·rename_i y n ds;split at h
  ·rename_i e hu;split at h
   ·rename_i i z hi hz;split at h
    ·rename_i hsz;rcases aU h with⟨h0,h⟩|⟨h0,h⟩
     ·have h0:=aP h0;subst h0;have hn:kX st i.size (.lst y 0 ds)=some (0,[]):=by simp[kX]
      split at h
      ·exact⟨(_,_),by simp only[d9,hu,hi,hz];rw[if_pos hsz];simp only[hn],h⟩
      ·exact⟨(_,_),by simp only[d9,hu,hi,hz];rw[if_pos hsz];simp only[hn],h⟩
      ·exact h.elim
     ·obtain⟨k,rfl⟩:∃k,n=k+1:=by
       cases n with
       |zero=>simp at h0
       |succ k=>exact⟨k,rfl⟩
      obtain⟨h1,h⟩:=aX h;rw[ad]at h1;have hl:=aP h1.1;have hn:kX st i.size (.lst y (k+1) ds)=some (k+1,ds):=by
       simp only[kX];rw[if_neg (by omega),if_pos (by omega),cz (by omega)]
      split at h
      ·obtain⟨h3,h4⟩:=aX h;rw[ad]at h3;refine⟨(_,_),?_,h4⟩;simp only[d9,hu,hi,hz];rw[if_pos hsz];simp only[hn];rw[if_pos h1.2];rw[if_pos ⟨aw h3.1,aw h3.2⟩]
      ·split at h
       ·rename_i cs te sz hb;split at h
        ·rename_i hte;obtain⟨h5,h2⟩:=aX h;obtain⟨h3,h4⟩:=aX h2;rw[ad]at h3;refine⟨(_,_),?_,h4⟩;simp only[d9,hu,hi,hz];rw[if_pos hsz];simp only[hn];rw[if_pos h1.2];simp only[hb];rw[if_pos ⟨hte.1,hte.2,aw h3.1,aw h3.2⟩,if_pos (aP h5)]
        ·exact h.elim
       ·exact h.elim
      ·split at h
       ·rename_i hlc;split at h
        ·rename_i cs hcs;rw[rj]at h;obtain⟨h3,h4⟩:=aX h;rw[ad]at h3;refine⟨(_,_),?_,h4⟩;simp only[d9,hu,hi,hz];rw[if_pos hsz];simp only[hn];rw[if_pos h1.2];rw[if_pos ⟨hlc,aw h3.1,aw h3.2⟩];simp only[hcs]
        ·exact h.elim
       ·exact h.elim
      ·exact h.elim
    ·exact h.elim
   ·exact h.elim
  ·exact h.elim
 ·exact appendK0_ok h
def nf(P:Program)(st:St)(s d:TypeId)(v:V)(K:V→St→Prop):Prop:=
 match P.underlying s,P.underlying d,v with
 |some .string,some (.slice e),.str l=>match P.underlying e,cv P e with
  |some (.int .u8),some 1=>must (Nat.ble l.length 281474976710656) (K (.slice st.length 0 l.length false 0 0) (st++[.row (l.map fun b=>.int .u8 b.toNat) e 1]))
  |_,_=>False
 |_,_,_=>False
theorem ta{P:Program}{st:St}{s d:TypeId}{v:V}{K:V→St→Prop}(h:nf P st s d v K):Sure (iS P st s d v) (fun r=>K r.1 r.2):=by
 unfold nf at h;split at h
 ·rename_i e l hs hd;split at h
  ·rename_i he hse;obtain⟨h1,h2⟩:=aX h;exact⟨(.slice st.length 0 l.length false 0 0,st++[.row (l.map fun b=>.int .u8 b.toNat) e 1]),by simp only[iS,hs,hd,he,hse,h1,ae],h2⟩
  ·exact h.elim
 ·exact h.elim
def effK(P:Program)(st:St)(ρ:Operand→Option V)(op:Op)(K:V→St→Prop):Prop:=
 match op with
 |.store t x y=>match ρ x,ρ y with
  |some p,some v=>storeK P st t p v (K (.tuple []))
  |_,_=>False
 |.makeSlice t l c=>match ρ l,ρ c with
  |some u,some v=>makeK P st t u v K
  |_,_=>False
 |.call {callee:=.builtin .append,args,argTypes}=>match argTypes.toList,evL ρ args.toList with
  |[t,t'],some [s,x]=>if t=t' then uF P st t s x K else False
  |_,_=>False
 |.convert s d x=>match ρ x with
  |some v=>nf P st s d v K
  |none=>False
 |op=>optK (fx P st ρ op) (fun r=>K r.1 r.2)
theorem effK_ok{P:Program}{st:St}{ρ:Operand→Option V}{op:Op}{K:V→St→Prop}(h:effK P st ρ op K):Sure (fx P st ρ op) (fun r=>K r.1 r.2):=by
 unfold effK at h;split at h
 ·split at h
  ·rename_i hx hy;obtain⟨s,h1,h2⟩:=storeK_ok h;exact⟨(.tuple [],s),by simp only[fx,hx,hy,h1],h2⟩
  ·exact h.elim
 ·split at h
  ·rename_i hx hy;obtain⟨r,h1,h2⟩:=makeK_ok h;exact⟨r,by simp only[fx,hx,hy];exact h1,h2⟩
  ·exact h.elim
 ·split at h
  ·rename_i ht ha;split at h
   ·rename_i he;obtain⟨r,h1,h2⟩:=appendK_ok h;exact⟨r,by simp only[fx,ht,ha];rw[if_pos he];exact h1,h2⟩
   ·exact h.elim
  ·exact h.elim
 ·split at h
  ·rename_i hx;obtain⟨r,h1,h2⟩:=ta h;exact⟨r,by simp only[fx,hx];exact h1,h2⟩
  ·exact h.elim
 ·exact cU h
inductive Kind where
 |look|make|call
def mY(P:Program)(g:FuncId):Bool:=match P.funcs[g]? with
 |some fn=>fn.body.isNone
 |none=>false
def jQ(P:Program):Op→Kind
 |.call {callee:=.value (.func g),..}=>bif mY P g then .look else .call
 |.call {callee:=.value _,..}=>.call
 |.call {callee:=.builtin .append,..}=>.make
 |.call {callee:=.builtin .clear,..}=>.make
 |.alloc _=>.make
 |.box _ _=>.make
 |.store _ _ _=>.make
 |.makeSlice _ _ _=>.make
 |.buildSlice _ _ _=>.make
 |.convert s d _=>match P.underlying s,P.underlying d with
  |some .string,some (.slice _)=>.make
  |_,_=>.look
 |_=>.look
theorem mH{P:Program}{st:St}{ρ:Operand→Option V}{op:Op}(h:jQ P op=.make):bF P st ρ op=none:=by
 unfold jQ at h;split at h
 all_goals try (cases h;done)
 all_goals try rfl
 ·rename_i g a b;cases hb:mY P g with
  |true=>rw[hb]at h;cases h
  |false=>rw[hb]at h;cases h
 rename_i s d x;split at h
 ·rename_i hs hd;simp only[bF];split
  ·simp only[qF,hs,hd]
  ·rfl
 ·cases h
abbrev CallK:=Tgt→List V→St→(V→St→Prop)→Prop
def gG(P:Program)(ck:CallK):Prop:=∀tgt args st Q,ck tgt args st Q→TgtSat P tgt args st Q
def goCall(ck:CallK)(g:FuncId)(args:List V)(st:St)(K:V→St→Prop):Prop:=
 match st with
 |[]=>ck (.fn g) args [] K
 |b::r=>bif aM args then ck (.fn g) args [] (fun v s2=>bif v.flat then K v (b::r)else K (v.shift (b::r).length) ((b::r)++s2.map (Blk.shift (b::r).length)))
  else ck (.fn g) args (b::r) K
section
variable {P:Program} {call:Call} {ck:CallK} {ro:Option Nat} {f:Fr} {st:St} {B:Nat} {W0 w:World} {m:List MB}
theorem FnSat.flatK{g:FuncId}{args:List V}{Q:V→St→Prop}(hf:aM args=true)(h:FnSat P g args [] (fun v s2=>bif v.flat then Q v st else Q (v.shift st.length) (st++s2.map (Blk.shift st.length)))):FnSat P g args st Q:=by
 intro B W0 m w rargs hargs hr;refine(h w.heap.size w [] w rargs (dx args rargs hf hargs) (Rel.empty w hr.gok)).mono ?_;rintro e w' ⟨v,x,m',s2,rfl,_,hv,hrel,hq⟩;cases hfl:v.flat with
 |true=>rw[hfl,ae]at hq;exact⟨v,x,m,st,rfl,Ext.refl m,dk v x hfl hv,hr.later hrel.below,hq⟩
 |false=>
  rw[hfl,ak]at hq;refine⟨v.shift st.length,x,m++m',st++s2.map (Blk.shift st.length),rfl,fun b e hb=>?_,by rw[←hr.len];exact fo v x hv,hr.join hrel,hq⟩;rw[List.getElem?_append_left (List.getElem?_eq_some_iff.1 hb).1];exact hb
theorem goCall_ok(hc:gG P ck){g:FuncId}{args:List V}{K:V→St→Prop}(h:goCall ck g args st K):FnSat P g args st K:=by
 unfold goCall at h;cases st with
 |nil=>exact hc (.fn g) args [] K h
 |cons b r=>
  simp only at h;cases hf:aM args with
  |false=>rw[hf,ak]at h;exact hc (.fn g) args _ K h
  |true=>rw[hf,ae]at h;exact FnSat.flatK hf (hc (.fn g) args [] _ h)
def opK(P:Program)(ck:CallK)(f:Fr)(st:St)(o:Oper)(K:Fr→St→Prop):Prop:=
 match jQ P o.op with
 |.look=>n8 P st (ev f.T.get) o.op (fun v=>K (f.put o.dst v) st)
 |.make=>effK P st (ev f.T.get) o.op (fun v s=>K (f.put o.dst v) s)
 |.call=>match o.op with
  |.call {callee:=.value x,args,argTypes}=>match ev f.T.get x,evL (ev f.T.get) args.toList with
   |some (.func (.func g) fs cs),some as=>bif bZ P g then goCall ck g (fs++as++cs) st (fun v s=>K (f.put o.dst v) s)else False
   |some (.yield l),some as=>ck (.yld l) as st (fun v s=>K (f.put o.dst v) s)
   |_,_=>False
  |_=>False
theorem opK_ok(hc:gG P ck){F:Fence}{a:Act}{Q:Exit→Act→World→Prop}(hF:FOk m ro F)(ha:AOk m f a)(hr:Rel B W0 m st w){o:Oper}{K:Fr→St→Prop}(h:opK P ck f st o K){K':Act→World→Prop}
  (hK:∀a w,Then B W0 m K a w→K' a w):o.wpIn F 0 P a w K' Q:=by
 unfold opK at h;split at h
 ·obtain⟨v,h1,h2⟩:=iX h;refine ny (call:=tP) pQ hF ha hr (f':=f.put o.dst v) (st':=st) (by simp only[lG,h1]) ?_;rintro a w ⟨m',f',s',e1,e2,e3,e4⟩;cases e4;exact hK a w ⟨m',_,_,e1,e2,e3,h2⟩
 ·rename_i hk;obtain⟨⟨v,s⟩,h1,h2⟩:=effK_ok h;refine ny (call:=tP) pQ hF ha hr (f':=f.put o.dst v) (st':=s) (by simp only[lG,mH hk,h1]) ?_;rintro a w ⟨m',f',s',e1,e2,e3,e4⟩;cases e4;exact hK a w ⟨m',_,_,e1,e2,e3,h2⟩
 ·split at h
  ·rename_i x args ats ho;split at h
   ·rename_i g fs cs as hx has;cases hp:bZ P g with
    |false=>rw[hp]at h;exact h.elim
    |true=>
     rw[hp,ae]at h;refine sL hF ha hr ho hx has hp (goCall_ok hc h) ?_;intro v s m' y w' hq e1 e2 e3;exact hK _ _ ⟨m',_,_,e1,(ha.mono e1).put e2 _,e3,hq⟩
   ·rename_i l as hx has;refine o8 hF ha hr ho hx has (hc (.yld l) as st _ h) ?_;intro v s m' y w' hq e1 e2 e3;exact hK _ _ ⟨m',_,_,e1,(ha.mono e1).put e2 _,e3,hq⟩
   ·exact h.elim
  ·exact h.elim
theorem AOk.known{a:Act}(h:AOk m f a){t:Nat}{v:V}(ht:f.T.get t=some v):AOk m (f.put (some t) v) a:=by
 unfold Fr.put;cases hb:Nat.blt t f.sz with
 |false=>
  simp only[hb];exact h
 |true=>
  simp only[hb];refine⟨⟨h.tmps.1,fun u x hx=>?_⟩,h.defers⟩;rcases Tr.get_put hx with⟨rfl,rfl⟩|⟨_,hx⟩
  ·exact h.tmps.2 _ _ ht
  ·exact h.tmps.2 u x hx
def guardK(ops:Array Oper)(f:Fr)(o:Oper)(A B:Fr→Prop):Prop:=
 match o.guard with
 |none=>A f
 |some (j,want)=>match ops[j]? with
  |some oj=>match oj.dst with
   |some d=>match f.T.get d with
    |some (.bool b)=>match want with
     |true=>bif b then A (f.put (some d) (.bool true))else B (f.put (some d) (.bool false))
     |false=>bif b then B (f.put (some d) (.bool true))else A (f.put (some d) (.bool false))
    |some (.tuple [])=>B f
    |_=>False
   |none=>False
  |none=>False
theorem guardK_ok{ops:Array Oper}{o:Oper}{A C:Fr→Prop}{a:Act}(ha:AOk m f a)(h:guardK ops f o A C):∃f',AOk m f' a∧((Region.wanted o (yielded ops a.tmps)=true∧A f')∨(Region.wanted o (yielded ops a.tmps)=false∧C f')):=by
 have gv:=fun b=>i5 (ops:=ops) (o:=o) (b:=b) ha;unfold nK at gv;unfold guardK at h;cases hg:o.guard with
 |none=>rw[hg]at h gv;exact⟨f,ha,.inl ⟨gv true rfl,h⟩⟩
 |some p=>
  obtain⟨j,want⟩:=p;rw[hg]at h gv;simp only at h gv;cases hj:ops[j]? with
  |none=>rw[hj]at h;exact h.elim
  |some oj=>
   rw[hj]at h gv;simp only at h gv;cases hd:oj.dst with
   |none=>rw[hd]at h;exact h.elim
   |some d=>
    rw[hd]at h gv;simp only at h gv;cases ht:f.T.get d with
    |none=>rw[ht]at h;exact h.elim
    |some v=>
     rw[ht]at h gv;cases v with
     |bool b=>
      simp only at h gv;cases want with
      |true=>
       rcases aU h with⟨rfl,h⟩|⟨rfl,h⟩
       ·exact⟨_,ha.known ht,.inl ⟨gv true rfl,h⟩⟩
       ·exact⟨_,ha.known ht,.inr ⟨gv false rfl,h⟩⟩
      |false=>
       rcases aU h with⟨rfl,h⟩|⟨rfl,h⟩
       ·exact⟨_,ha.known ht,.inr ⟨gv false rfl,h⟩⟩
       ·exact⟨_,ha.known ht,.inl ⟨gv true rfl,h⟩⟩
     |tuple l=>
      cases l with
      |nil=>exact⟨f,ha,.inr ⟨gv false rfl,h⟩⟩
      |cons=>exact h.elim
     |_=>exact h.elim
def opsK(P:Program)(ck:CallK)(ops:Array Oper):List Oper→Fr→St→(Fr→St→Prop)→Prop
 |[],f,st,K=>K f st
 |o::r,f,st,K=>guardK ops f o (fun f=>opK P ck f st o (fun f s=>opsK P ck ops r f s K)) (fun f=>opsK P ck ops r (f.put o.dst (.tuple [])) st K)
theorem tM(hc:gG P ck){ops:Array Oper}{F:Fence}{Q:Exit→Act→World→Prop}{K:Fr→St→Prop}:∀(l:List Oper) (k:Nat),(∀j,l[j]?=ops[k+j]?)→
  ∀(f:Fr) (st:St),opsK P ck ops l f st K→
   ∀(B:Nat) (W0 w:World) (m:List MB) (a:Act),FOk m ro F→AOk m f a→Rel B W0 m st w→(∀a w,Then B W0 m K a w→Q .normal a w)→
    wpOpsIn F 0 P ops Q (List.range' k l.length) a w
 |[],k,_,f,st,h,B,W0,w,m,a,hF,ha,hr,hQ=>hQ a w ⟨m,f,st,Ext.refl m,ha,hr,h⟩
 |o::l,k,hl,f,st,h,B,W0,w,m,a,hF,ha,hr,hQ=>by
  have ho:ops[k]?=some o:=by simpa using(hl 0).symm
  have hl':∀j,l[j]?=ops[k+1+j]?:=fun j=>by have:=hl (j+1);simpa[Nat.add_assoc,Nat.add_comm 1 j]using this
  simp only[opsK]at h;simp only[bi,List.range'_succ,wpOpsIn,ho];obtain⟨f0,ha0,⟨hw,h⟩|⟨hw,h⟩⟩:=guardK_ok ha h
  ·rw[if_pos hw];refine opK_ok hc hF ha0 hr h ?_;rintro a1 w1 ⟨m1,f2,st2,e1,e2,e3,e4⟩;exact tM hc l (k+1) hl' f2 st2 e4 B W0 w1 m1 a1 (hF.mono e1) e2 e3 fun a w ⟨m2,f2,s2,g1,g2,g3,g4⟩=>hQ a w ⟨m2,f2,s2,e1.trans g1,g2,g3,g4⟩
  ·rw[if_neg (by rw[hw];simp)];refine⟨fun g _=>hF.fn g,?_⟩;exact tM hc l (k+1) hl' _ st h B W0 w m _ hF (ha0.put (x:=undef) rfl _) hr hQ
def ui(ops:Array Oper)(T:Nat→Option V)(o:Oper)(A B:Prop):Prop:=
 match o.guard with
 |none=>A
 |some (j,want)=>match ops[j]? with
  |some oj=>match oj.dst with
   |some d=>match T d with
    |some (.bool b)=>match want with
     |true=>bif b then A else B
     |false=>bif b then B else A
    |some (.tuple [])=>B
    |_=>False
   |none=>False
  |none=>False
theorem sr{ops:Array Oper}{T:Nat→Option V}{o:Oper}{A C:Prop}(h:ui ops T o A C):(eO ops T o=some true∧A)∨(eO ops T o=some false∧C):=by
 unfold ui at h;unfold eO;cases hg:o.guard with
 |none=>rw[hg]at h;exact .inl ⟨rfl,h⟩
 |some p=>
  obtain⟨j,want⟩:=p;rw[hg]at h;simp only at h ⊢;cases hj:ops[j]? with
  |none=>rw[hj]at h;exact h.elim
  |some oj=>
   rw[hj]at h;simp only at h ⊢;cases hd:oj.dst with
   |none=>rw[hd]at h;exact h.elim
   |some d=>
    rw[hd]at h;simp only at h ⊢;cases ht:T d with
    |none=>rw[ht]at h;exact h.elim
    |some v=>
     rw[ht]at h;cases v with
     |bool b=>
      simp only at h ⊢;cases want with
      |true=>
       rcases aU h with⟨rfl,h2⟩|⟨rfl,h2⟩
       ·exact .inl ⟨rfl,h2⟩
       ·exact .inr ⟨rfl,h2⟩
      |false=>
       rcases aU h with⟨rfl,h2⟩|⟨rfl,h2⟩
       ·exact .inr ⟨rfl,h2⟩
       ·exact .inl ⟨rfl,h2⟩
     |tuple l=>
      cases l with
      |nil=>exact .inr ⟨rfl,h⟩
      |cons=>exact h.elim
     |_=>exact h.elim
theorem guardV_eq(ops:Array Oper)(f:Fr)(o:Oper):nK ops f o=eO ops f.T.get o:=rfl
def jP:List (Nat×Bool)→Nat→Option Bool
 |[],_=>none
 |(d,b)::r,t=>bif Nat.beq d t then some b else jP r t
def KnOk(kn:List (Nat×Bool))(f:Fr):Prop:=∀d b,jP kn d=some b→f.T.get d=some (.bool b)
def lb(kn:List (Nat×Bool)):Option Tmp→List (Nat×Bool)
 |none=>kn
 |some t=>match jP kn t with
  |none=>kn
  |some _=>[]
theorem Tr.getF_put_ne:∀(f:Nat) (t:Tr) (k:Nat) (v:V) (i:Nat),i≠k→Tr.getF f (Tr.putF f t k v) i=Tr.getF f t i
 |0,_,_,_,_,_=>rfl
 |f+1,t,k,v,i,h=>by
  have half:∀{a b:Nat} {c:Bool},Nat.beq (a%2) 0=c→Nat.beq (b%2) 0=c→a+1≠b+1→a/2≠b/2:=by
   intro a b c h1 h2 h3;cases c with
   |true=>have:=aP h1;have:=aP h2;omega
   |false=>
    have g1:a%2≠0:=by intro e;rw[e]at h1;cases h1
    have g2:b%2≠0:=by intro e;rw[e]at h2;cases h2
    omega
  cases t with
  |lf=>
   cases k with
   |zero=>
    cases i with
    |zero=>exact absurd rfl h
    |succ i=>cases hi:Nat.beq (i%2) 0<;>simp[Tr.putF,Tr.getF,Tr.getF_lf,hi]
   |succ j=>
    cases i with
    |zero=>cases hj:Nat.beq (j%2) 0<;>simp[Tr.putF,Tr.getF,hj]
    |succ i=>
     cases hj:Nat.beq (j%2) 0<;>cases hi:Nat.beq (i%2) 0<;>simp only[Tr.putF,Tr.getF,hi,hj,ae,ak,Tr.getF_lf]
     ·rw[Tr.getF_put_ne f .lf (j/2) v (i/2) (half hi hj h),Tr.getF_lf]
     ·rw[Tr.getF_put_ne f .lf (j/2) v (i/2) (half hi hj h),Tr.getF_lf]
  |nd l u r=>
   cases k with
   |zero=>
    cases i with
    |zero=>exact absurd rfl h
    |succ i=>cases hi:Nat.beq (i%2) 0<;>simp[Tr.putF,Tr.getF,hi]
   |succ j=>
    cases i with
    |zero=>cases hj:Nat.beq (j%2) 0<;>simp[Tr.putF,Tr.getF,hj]
    |succ i=>
     cases hj:Nat.beq (j%2) 0<;>cases hi:Nat.beq (i%2) 0<;>simp only[Tr.putF,Tr.getF,hi,hj,ae,ak]
     ·exact Tr.getF_put_ne f r (j/2) v (i/2) (half hi hj h)
     ·exact Tr.getF_put_ne f l (j/2) v (i/2) (half hi hj h)
theorem KnOk.put{kn:List (Nat×Bool)}{f:Fr}(h:KnOk kn f)(d:Option Tmp)(v:V):KnOk (lb kn d) (f.put d v):=by
 cases d with
 |none=>exact h
 |some t=>
  cases ht:jP kn t with
  |some b=>
   have e:lb kn (some t)=[]:=by simp only[lb,ht]
   rw[e];intro d b h;simp[jP]at h
  |none=>
   have e:lb kn (some t)=kn:=by simp only[lb,ht]
   rw[e];intro d b hd;have hne:d≠t:=by rintro rfl;rw[ht]at hd;cases hd
   show(bif Nat.blt t f.sz then(⟨f.sz,f.T.put t v,f.defs⟩:Fr)else f).T.get d=some (.bool b);cases Nat.blt t f.sz with
   |false=>exact h d b hd
   |true=>
    rw[←h d b hd];exact Tr.getF_put_ne 12 f.T t v d hne
theorem KnOk.cons{kn:List (Nat×Bool)}{f:Fr}(h:KnOk kn f){d:Nat}{b:Bool}(hd:f.T.get d=some (.bool b)):KnOk ((d,b)::kn) f:=by
 intro e c he;unfold jP at he;cases hb:Nat.beq d e with
 |true=>
  rw[hb,ae]at he;cases he;rw[←aP hb];exact hd
 |false=>rw[hb,ak]at he;exact h e c he
theorem KnOk.nil{f:Fr}:KnOk [] f:=fun d b h=>by simp[jP]at h
def guardN(ops:Array Oper)(T:Nat→Option V)(kn:List (Nat×Bool))(o:Oper)(A B:List (Nat×Bool)→Prop):Prop:=
 match o.guard with
 |none=>A kn
 |some (j,want)=>match ops[j]? with
  |some oj=>match oj.dst with
   |some d=>match jP kn d with
    |some b=>match want with
     |true=>bif b then A kn else B kn
     |false=>bif b then B kn else A kn
    |none=>match T d with
     |some (.bool b)=>match want with
      |true=>bif b then A ((d,true)::kn)else B ((d,false)::kn)
      |false=>bif b then B ((d,true)::kn)else A ((d,false)::kn)
     |some (.tuple [])=>B kn
     |_=>False
   |none=>False
  |none=>False
theorem guardN_ok{ops:Array Oper}{f:Fr}{kn:List (Nat×Bool)}{o:Oper}{A C:List (Nat×Bool)→Prop}(hk:KnOk kn f)(h:guardN ops f.T.get kn o A C):
  (eO ops f.T.get o=some true∧∃kn',KnOk kn' f∧A kn')∨(eO ops f.T.get o=some false∧∃kn',KnOk kn' f∧C kn'):=by
 unfold guardN at h;unfold eO;cases hg:o.guard with
 |none=>rw[hg]at h;exact .inl ⟨rfl,kn,hk,h⟩
 |some p=>
  obtain⟨j,want⟩:=p;rw[hg]at h;simp only at h ⊢;cases hj:ops[j]? with
  |none=>rw[hj]at h;exact h.elim
  |some oj=>
   rw[hj]at h;simp only at h ⊢;cases hd:oj.dst with
   |none=>rw[hd]at h;exact h.elim
   |some d=>
    rw[hd]at h;simp only at h ⊢;cases hn:jP kn d with
    |some b=>
     rw[hn]at h;simp only[hk d b hn];cases want with
     |true=>
      rcases aU h with⟨rfl,h2⟩|⟨rfl,h2⟩
      ·exact .inl ⟨rfl,kn,hk,h2⟩
      ·exact .inr ⟨rfl,kn,hk,h2⟩
     |false=>
      rcases aU h with⟨rfl,h2⟩|⟨rfl,h2⟩
      ·exact .inr ⟨rfl,kn,hk,h2⟩
      ·exact .inl ⟨rfl,kn,hk,h2⟩
    |none=>
     rw[hn]at h;simp only at h;cases ht:f.T.get d with
     |none=>rw[ht]at h;exact h.elim
     |some v=>
      rw[ht]at h;cases v with
      |bool b=>
       simp only at h ⊢;cases want with
       |true=>
        rcases aU h with⟨rfl,h2⟩|⟨rfl,h2⟩
        ·exact .inl ⟨rfl,_,hk.cons ht,h2⟩
        ·exact .inr ⟨rfl,_,hk.cons ht,h2⟩
       |false=>
        rcases aU h with⟨rfl,h2⟩|⟨rfl,h2⟩
        ·exact .inr ⟨rfl,_,hk.cons ht,h2⟩
        ·exact .inl ⟨rfl,_,hk.cons ht,h2⟩
      |tuple l=>
       cases l with
       |nil=>exact .inr ⟨rfl,kn,hk,h⟩
       |cons=>exact h.elim
      |_=>exact h.elim
def pickN(kn:List (Nat×Bool)):Op→Option Operand
 |.pick (.tmp c) x y=>match jP kn c with
  |some true=>some x
  |some false=>some y
  |none=>none
 |_=>none
theorem pickN_ok{kn:List (Nat×Bool)}{f:Fr}{op:Op}{x:Operand}(hk:KnOk kn f)(h:pickN kn op=some x):bF P st (ev f.T.get) op=ev f.T.get x:=by
 unfold pickN at h;split at h
 ·rename_i c a b;cases hn:jP kn c with
  |none=>rw[hn]at h;cases h
  |some t=>
   rw[hn]at h;have hc:ev f.T.get (.tmp c)=some (.bool t):=hk c t hn;simp only[bF];rw[hc];cases t<;>(cases h;rfl)
 ·cases h
theorem qV{o:Oper}{f f':Fr}(h:di P call f st o=some f'):∃v,f'=f.put o.dst v:=by
 unfold di at h;split at h
 ·cases h;exact⟨_,rfl⟩
 ·split at h
  ·cases h;exact⟨_,rfl⟩
  ·cases h
def aL:List (Bool×(V×St))→Option (V×St)
 |[]=>none
 |(b,o)::r=>bif b then some o else aL r
def kW(Q:V→St→Prop):List (Bool×(V×St))→Prop
 |[]=>False
 |(b,o)::r=>bif b then Q o.1 o.2 else kW Q r
theorem fJ{Q:V→St→Prop}:∀{l:List (Bool×(V×St))},kW Q l→∃o,aL l=some o∧Q o.1 o.2
 |[],h=>h.elim
 |(b,o)::r,h=>by
  rcases aU h with⟨rfl,h⟩|⟨rfl,h⟩
  ·exact⟨o,rfl,h⟩
  ·exact fJ (l:=r) h
abbrev CallQ:=Tgt→List V→St→Option (Bool×List (Bool×(V×St)))
variable {cq:CallQ}
def unq(cq:CallQ):Call:=fun t a s=>match cq t a s with
 |some (_,l)=>aL l
 |none=>none
def liftQ(c:Call):CallQ:=fun t a s=>match c t a s with
 |some r=>some (false,[(true,r)])
 |none=>none
theorem unq_lift(c:Call):unq (liftQ c)=c:=by
 funext t a s;unfold unq liftQ;cases c t a s<;>rfl
theorem jD{cq:CallQ}{t:Tgt}{a:List V}{s:St}{b:Bool}{l:List (Bool×(V×St))}{o:V×St}(h:cq t a s=some (b,l))(ho:aL l=some o):unq cq t a s=some o:=by
 unfold unq;rw[h];exact ho
def doQ(cq:CallQ)(g:FuncId)(args:List V)(st:St)(K:V→St→Prop):Prop:=
 bif aM args then match cq (.fn g) args []with
  |some (_,l)=>kW (fun v s2=>bif v.flat then K v st else K (v.shift st.length) (st++s2.map (Blk.shift st.length))) l
  |none=>False
 else match cq (.fn g) args st with
  |some (_,l)=>kW K l
  |none=>False
def callQ(P:Program)(cq:CallQ)(T:Nat→Option V)(mem:St)(op:Op)(K:V→St→Prop):Prop:=match op with
 |.call {callee:=.value x,args,argTypes}=>match ev T x,evL (ev T) args.toList with
  |some (.func (.func g) fs cs),some as=>bif bZ P g then doQ cq g (fs++as++cs) mem K else False
  |some (.yield l),some as=>match cq (.yld l) as mem with
   |some (_,l)=>kW K l
   |none=>False
  |_,_=>False
 |_=>False
theorem doQ_ok{cq:CallQ}{g:FuncId}{args:List V}{st:St}{K:V→St→Prop}(h:doQ cq g args st K):Sure (lT (unq cq) g args st) (fun r=>K r.1 r.2):=by
 unfold doQ at h;unfold lT;cases hf:aM args with
 |true=>
  rw[hf,ae]at h;rw[ae];split at h
  ·rename_i b l hl;obtain⟨o,h1,h2⟩:=fJ h;rw[jD hl h1];obtain⟨v,s2⟩:=o;cases hv:v.flat with
   |true=>rw[hv,ae]at h2;simp only[hv,ae];exact⟨_,rfl,h2⟩
   |false=>rw[hv,ak]at h2;simp only[hv,ak];exact⟨_,rfl,h2⟩
  ·exact h.elim
 |false=>
  rw[hf,ak]at h;rw[ak];split at h
  ·rename_i b l hl;obtain⟨o,h1,h2⟩:=fJ h;exact⟨o,jD hl h1,h2⟩
  ·exact h.elim
theorem extern_none{P:Program}{st:St}{ρ:Operand→Option V}{g:FuncId}{args:Array Operand}{ats:Array TypeId}(h:mY P g=false):bF P st ρ (.call {callee:=.value (.func g),args,argTypes:=ats})=none:=by
 have hx:∀s c,mX P g s c=none:=by
  intro s c;unfold mX;unfold mY at h;cases hf:P.funcs[g]? with
  |none=>rfl
  |some fn=>rw[hf]at h;simp only at h;simp only[h,ak]
 simp only[bF];split
 ·split
  ·exact hx _ _
  ·rfl
 ·rfl
theorem callQ_ok{P:Program}{cq:CallQ}{T:Nat→Option V}{mem:St}{op:Op}{K:V→St→Prop}(hk:jQ P op=.call)(h:callQ P cq T mem op K):Sure (dr P (unq cq) T mem op) (fun r=>K r.1 r.2):=by
 unfold callQ at h;split at h
 ·rename_i x args ats;have hp:bF P mem (ev T) (.call {callee:=.value x,args,argTypes:=ats})=none:=by
   cases x with
   |func g=>
    refine extern_none ?_;cases hb:mY P g with
    |false=>rfl
    |true=>simp only[jQ,hb,ae]at hk;cases hk
   |_=>rfl
  have he:fx P mem (ev T) (.call {callee:=.value x,args,argTypes:=ats})=none:=rfl;unfold dr;rw[hp,he];simp only
  split at h
  ·rename_i g fs cs as hx has;simp only[hx,has];cases hpl:bZ P g with
   |false=>rw[hpl]at h;exact h.elim
   |true=>rw[hpl,ae]at h;rw[ae];exact doQ_ok h
  ·rename_i l as hx has;simp only[hx,has];split at h
   ·rename_i b q hl;obtain⟨o,h1,h2⟩:=fJ h;exact⟨o,jD hl h1,h2⟩
   ·exact h.elim
  ·exact h.elim
 ·exact h.elim
def seeQ(P:Program)(cq:CallQ)(T:Nat→Option V)(cur:St)(op:Op):Option (List (Bool×(V×St))):=match op with
 |.call {callee:=.value x,args,argTypes}=>match ev T x,evL (ev T) args.toList with
  |some (.func (.func g) fs cs),some as=>bif aM (fs++as++cs)then none else bif bZ P g then(match cq (.fn g) (fs++as++cs) (cur.map Blk.toRo)with
   |some (true,l)=>bif l.all (fun o=>o.2.1.plain)then some l else none
   |_=>none)else none
  |_,_=>none
 |_=>none
theorem nx:∀{l:List (Bool×(V×St))} {o:V×St},aL l=some o→∃b,(b,o)∈l
 |[],o,h=>by cases h
 |(b,x)::r,o,h=>by
  cases b with
  |true=>simp only[aL,ae,af]at h;subst h;exact⟨true,by simp⟩
  |false=>simp only[aL,ak]at h;obtain⟨c,hc⟩:=nx h;exact⟨c,by simp[hc]⟩
theorem seeQ_ok{P:Program}{cq:CallQ}{T:Nat→Option V}{cur:St}{op:Op}{l:List (Bool×(V×St))}{v:V}{s:St}(h:seeQ P cq T cur op=some l)(ho:aL l=some (v,s))(hf:v.flat=true):mn P (unq cq) T cur op=some v:=by
 unfold seeQ at h;unfold mn;split at h
 ·rename_i x args ats;split at h
  ·rename_i g fs cs as hx has;simp only[hx,has];cases hfl:aM (fs++as++cs)with
   |true=>rw[hfl]at h;cases h
   |false=>
    rw[hfl,ak]at h;rw[ak];cases hp:bZ P g with
    |false=>rw[hp]at h;cases h
    |true=>
     rw[hp,ae]at h;rw[ae];split at h
     ·rename_i l' hl;cases hb:l'.all (fun o=>o.2.1.plain)with
      |false=>rw[hb]at h;cases h
      |true=>
      rw[hb,ae]at h;cases h;unfold gf;rw[hfl,ak,jD hl ho];obtain⟨b,hm⟩:=nx ho;have hp2:=List.all_eq_true.1 hb _ hm;simp only at hp2;simp only[V.plain_flat _ hp2,hp2,tH,Bool.true_or,ae]
     ·cases h
  ·cases h
 ·cases h
def lookQ(P:Program)(cq:CallQ)(T:Nat→Option V)(cur:St)(op:Op):Option (List (Bool×(V×St))):=match bF P cur (ev T) op with
 |some _=>none
 |none=>match op with
  |.call {callee:=.value x,args,argTypes}=>match ev T x,evL (ev T) args.toList with
   |some (.func (.func g) fs cs),some as=>bif bZ P g then(match cq (.fn g) (fs++as++cs) (bif aM (fs++as++cs)then[]else cur.map Blk.toRo)with
    |some (true,l)=>bif l.all (fun o=>o.2.1.flat||(!aM (fs++as++cs)&&ltV cur.length o.2.1))then some l else none
    |_=>none)else none
   |_,_=>none
  |_=>none
theorem lookQ_ok{P:Program}{cq:CallQ}{f:Fr}{cur:St}{o:Oper}{l:List (Bool×(V×St))}{v:V}{s:St}(h:lookQ P cq f.T.get cur o.op=some l)(ho:aL l=some (v,s)):di P (unq cq) f cur o=some (f.put o.dst v):=by
 unfold lookQ at h;unfold di;split at h
 ·cases h
 ·rename_i hpu;simp only[hpu];unfold lookOp;split at h
  ·rename_i x args ats hop;simp only[hop];split at h
   ·rename_i g fs cs as hx has;simp only[hx,has];cases hp:bZ P g with
    |false=>rw[hp]at h;cases h
    |true=>
     rw[hp,ae]at h;simp only[ae];split at h
     ·rename_i l' hl;cases hb:l'.all (fun o=>o.2.1.flat||(!aM (fs++as++cs)&&ltV cur.length o.2.1))with
      |false=>rw[hb]at h;cases h
      |true=>
       rw[hb,ae]at h;cases h;unfold gf;rw[jD hl ho];obtain⟨b,hm⟩:=nx ho;have hp2:=List.all_eq_true.1 hb _ hm;simp only at hp2;simp only[hp2,ae]
     ·cases h
   ·cases h
  ·cases h
def jE(P:Program)(cq:CallQ)(ops:Array Oper)(st:St):List Oper→Fr→List (Nat×Bool)→(Fr→Prop)→Prop
 |[],f,_,K=>K f
 |o::r,f,kn,K=>guardN ops f.T.get kn o
   (fun kn=>match pickN kn o.op with
     |some x=>optK (ev f.T.get x) (fun v=>jE P cq ops st r (f.put o.dst v) (lb kn o.dst) K)
     |none=>match jQ P o.op with
      |.call=>match lookQ P cq f.T.get st o.op with
       |some l=>kW (fun v _=>jE P cq ops st r (f.put o.dst v) (lb kn o.dst) K) l
       |none=>optK (di P (unq cq) f st o) (fun f'=>jE P cq ops st r f' (lb kn o.dst) K)
      |_=>n8 P st (ev f.T.get) o.op (fun v=>jE P cq ops st r (f.put o.dst v) (lb kn o.dst) K))
   (fun kn=>jE P cq ops st r (f.put o.dst (.tuple [])) (lb kn o.dst) K)
theorem gI{ops:Array Oper}:∀{l:List Oper} {f:Fr} {kn:List (Nat×Bool)} {K:Fr→Prop},KnOk kn f→jE P cq ops st l f kn K→Sure (eV P (unq cq) ops st l f) K
 |[],f,kn,K,_,h=>⟨f,rfl,h⟩
 |o::r,f,kn,K,hk,h=>by
  simp only[jE]at h;simp only[eV,guardV_eq];rcases guardN_ok hk h with⟨hg,kn',hk',h⟩|⟨hg,kn',hk',h⟩
  ·simp only[hg];split at h
   ·rename_i x hx;obtain⟨v,h1,h2⟩:=cU h;have:di P (unq cq) f st o=some (f.put o.dst v):=by simp only[di,pickN_ok hk' hx,h1]
    simp only[this];exact gI (hk'.put _ v) h2
   ·split at h
    ·split at h
     ·rename_i l hl;obtain⟨⟨v,s2⟩,ho,h⟩:=fJ h;simp only[lookQ_ok hl ho];exact gI (hk'.put _ v) h
     ·obtain⟨f',h1,h2⟩:=cU h;simp only[h1];obtain⟨v,rfl⟩:=qV h1;exact gI (hk'.put _ v) h2
    ·obtain⟨v,h1,h2⟩:=iX h;have:di P (unq cq) f st o=some (f.put o.dst v):=by simp only[di,h1]
     simp only[this];exact gI (hk'.put _ v) h2
  ·simp only[hg];exact gI (hk'.put _ _) h
def valK(P:Program)(cq:CallQ)(T:Nat→Option V)(mem:St)(op:Op)(K:V→St→Prop):Prop:=
 match jQ P op with
 |.look=>n8 P mem (ev T) op (fun v=>K v mem)
 |.make=>effK P mem (ev T) op K
 |.call=>callQ P cq T mem op K
theorem valK_ok{T:Nat→Option V}{mem:St}{op:Op}{K:V→St→Prop}(h:valK P cq T mem op K):Sure (dr P (unq cq) T mem op) (fun r=>K r.1 r.2):=by
 unfold valK at h;split at h
 ·obtain⟨v,h1,h2⟩:=iX h;exact⟨(v,mem),by unfold dr;rw[h1],h2⟩
 ·rename_i hk;obtain⟨r,h1,h2⟩:=effK_ok h;exact⟨r,by unfold dr;rw[mH hk];simp only[h1],h2⟩
 ·rename_i hk;exact callQ_ok hk h
def guarded(ops:Array Oper)(i:Nat):Bool:=ops.toList.any fun o=>match o.guard with
 |some (j,_)=>Nat.beq j i
 |none=>false
def tc(c:Bool)(v:V)(K:V→Prop):Prop:=bif c then(match v with
 |.bool b=>bif b then K (.bool true)else K (.bool false)
 |v=>K v)else K v
theorem ri{c:Bool}{v:V}{K:V→Prop}(h:tc c v K):K v:=by
 unfold tc at h;rcases aU h with⟨_,h⟩|⟨_,h⟩
 ·split at h
  ·rename_i b;rcases aU h with⟨hb,h⟩|⟨hb,h⟩
   ·rw[hb];exact h
   ·rw[hb];exact h
  ·exact h
 ·exact h
def rK(P:Program)(cq:CallQ)(ops:Array Oper)(f:Fr)(st:St)(dsts:List Tmp):List Oper→List Rec→(List Rec→Prop)→Prop
 |[],recs,K=>K recs
 |o::r,recs,K=>bif o.after.toList.all (fun e=>!Region.binds .any e||Nat.blt e.on recs.length)then
   ui ops (bE f dsts (aZ recs o.after.toList) recs) o
    (valK P cq (bE f dsts (aZ recs o.after.toList) recs) (st.map Blk.toRo++memR (aZ recs o.after.toList) 0 recs) o.op
      (fun v s2=>tc (guarded ops recs.length) v fun v=>rK P cq ops f st dsts r (recs++[⟨o.dst,capX (capB ops o) v,aZ recs o.after.toList,(s2.drop (st.length+lenR recs)).map Blk.keep⟩]) K))
    (rK P cq ops f st dsts r (recs++[⟨o.dst,.tuple [],aZ recs o.after.toList,[]⟩]) K)
  else False
theorem rK_ok{ops:Array Oper}{dsts:List Tmp}:∀{l:List Oper} {recs:List Rec} {K:List Rec→Prop},rK P cq ops f st dsts l recs K→Sure (oB P (unq cq) ops f st dsts l recs) K
 |[],recs,K,h=>⟨recs,rfl,h⟩
 |o::r,recs,K,h=>by
  simp only[rK]at h;rcases aU h with⟨ha,h⟩|⟨_,h⟩
  ·rcases sr h with⟨hg,h⟩|⟨hg,h⟩
   ·obtain⟨⟨v,s2⟩,h1,h2⟩:=valK_ok h;obtain⟨R,h3,h4⟩:=rK_ok (ri h2);refine⟨R,?_,h4⟩;simp only[oB,nX,ha,ae,hg,h1];exact h3
   ·obtain⟨R,h3,h4⟩:=rK_ok h;refine⟨R,?_,h4⟩;simp only[oB,nX,ha,ae,hg];exact h3
  ·exact h.elim
def askedB(ops:Array Oper)(dst:Option Tmp):Bool:=match dst with
 |some d=>ops.toList.any fun o=>match o.op with
  |.call {callee:=.value (.tmp _),args,argTypes:=_}=>args.toList.any fun x=>match x with
   |.tmp t=>Nat.beq t d
   |_=>false
  |_=>false
 |none=>false
def eK(P:Program)(cq:CallQ)(ops:Array Oper)(f:Fr)(dsts:Nat→List Tmp):List Oper→List RE→St→Nat→Nat→Nat→Nat→(List RE→St→Prop)→Prop
 |[],recs,cur,_,_,_,_,K=>K recs cur
 |o::r,recs,cur,em,sm,wm,lm,K=>
  bif o.after.toList.all (fun e=>!Region.binds .any e||Nat.blt e.on recs.length)then
   ui ops (bE f (dsts recs.length) (aZ (ay recs) o.after.toList) (ay recs)) o
    (bif pR o.op then
      n8 P cur (ev (bE f (dsts recs.length) (aZ (ay recs) o.after.toList) (ay recs))) o.op
       (fun v=>tc (guarded ops recs.length||askedB ops o.dst) v fun v=>eK P cq ops f dsts r (recs++[⟨⟨o.dst,v,(aZ (ay recs) o.after.toList),[]⟩,false,false,cur,false,false,none⟩]) cur em sm wm lm K)
    else match loadB (bE f (dsts recs.length) (aZ (ay recs) o.after.toList) (ay recs)) o.op with
    |some (t,b,off)=>bif subB wm (aZ (ay recs) o.after.toList)||ordL b (aZ (ay recs) o.after.toList) 0 recs then
      n8 P cur (ev (bE f (dsts recs.length) (aZ (ay recs) o.after.toList) (ay recs))) o.op (fun v=>eK P cq ops f dsts r (recs++[⟨⟨o.dst,v,(aZ (ay recs) o.after.toList),[]⟩,false,false,cur,false,true,some b⟩]) cur em sm wm (lm|||1<<<recs.length) K)
     else False
    |none=>bif lookB P o.op then
     bif subB em (aZ (ay recs) o.after.toList)then
      n8 P cur (ev (bE f (dsts recs.length) (aZ (ay recs) o.after.toList) (ay recs))) o.op
       (fun v=>eK P cq ops f dsts r (recs++[⟨⟨o.dst,v,(aZ (ay recs) o.after.toList),[]⟩,false,true,cur,false,false,none⟩]) cur em (sm|||1<<<recs.length) wm lm K)
     else False
    else match seeQ P cq (bE f (dsts recs.length) (aZ (ay recs) o.after.toList) (ay recs)) cur o.op with
    |some l=>bif subB em (aZ (ay recs) o.after.toList)then kW (fun v _=>bif v.flat then eK P cq ops f dsts r (recs++[⟨⟨o.dst,v,(aZ (ay recs) o.after.toList),[]⟩,false,true,cur,ltOp (bE f (dsts recs.length) (aZ (ay recs) o.after.toList) (ay recs)) cur.length o.op,false,none⟩]) cur em (sm|||1<<<recs.length) wm lm K else False) l else False
    |none=>match mn P (unq cq) (bE f (dsts recs.length) (aZ (ay recs) o.after.toList) (ay recs)) cur o.op with
    |some v=>bif subB em (aZ (ay recs) o.after.toList)then eK P cq ops f dsts r (recs++[⟨⟨o.dst,v,(aZ (ay recs) o.after.toList),[]⟩,false,true,cur,ltOp (bE f (dsts recs.length) (aZ (ay recs) o.after.toList) (ay recs)) cur.length o.op,false,none⟩]) cur em (sm|||1<<<recs.length) wm lm K else False
    |none=>valK P cq (bE f (dsts recs.length) (aZ (ay recs) o.after.toList) (ay recs)) cur o.op
      (fun v cur'=>bif pM (bE f (dsts recs.length) (aZ (ay recs) o.after.toList) (ay recs)) o.op v then eK P cq ops f dsts r (recs++[⟨⟨o.dst,v,(aZ (ay recs) o.after.toList),[]⟩,false,false,cur,false,false,none⟩]) cur em sm wm lm K
        else bif pW o.op&&isApp cur cur' then(bif subB sm (aZ (ay recs) o.after.toList)||(subB em (aZ (ay recs) o.after.toList)&&ordS (aZ (ay recs) o.after.toList) 0 recs)then eK P cq ops f dsts r (recs++[⟨⟨o.dst,v,(aZ (ay recs) o.after.toList),[]⟩,true,true,cur,true,false,none⟩]) cur' (em|||1<<<recs.length) (sm|||1<<<recs.length) wm lm K else False)
         else bif subB sm (aZ (ay recs) o.after.toList)then(bif subB lm (aZ (ay recs) o.after.toList)||ordW (wrB (bE f (dsts recs.length) (aZ (ay recs) o.after.toList) (ay recs)) cur.length o.op) (aZ (ay recs) o.after.toList) 0 recs then eK P cq ops f dsts r (recs++[⟨⟨o.dst,v,(aZ (ay recs) o.after.toList),[]⟩,true,true,cur,false,false,wrB (bE f (dsts recs.length) (aZ (ay recs) o.after.toList) (ay recs)) cur.length o.op⟩]) cur' (em|||1<<<recs.length) (sm|||1<<<recs.length) (wm|||1<<<recs.length) lm K else False)else False))
    (eK P cq ops f dsts r (recs++[⟨⟨o.dst,.tuple [],(aZ (ay recs) o.after.toList),[]⟩,false,false,cur,false,false,none⟩]) cur em sm wm lm K)
  else False
theorem le{ops:Array Oper}{dsts:Nat→List Tmp}:∀{l:List Oper} {recs:List RE} {cur:St} {em sm wm lm:Nat} {K:List RE→St→Prop},eK P cq ops f dsts l recs cur em sm wm lm K→Sure (ic P (unq cq) ops f dsts l recs cur em sm wm lm) (fun r=>K r.1 r.2)
 |[],recs,cur,em,sm,wm,lm,K,h=>⟨(recs,cur),rfl,h⟩
 |o::r,recs,cur,em,sm,wm,lm,K,h=>by
  simp only[eK]at h;simp only[ic];rcases aU h with⟨ha,h⟩|⟨_,h⟩
  ·rw[ha,ae];rcases sr h with⟨hg,h⟩|⟨hg,h⟩
   ·rw[hg];simp only
    rcases aU h with⟨hn,h⟩|⟨hn,h⟩
    ·rw[hn,ae];obtain⟨v,h1,h2⟩:=iX h;rw[h1];exact le (ri h2)
    ·rw[hn,ak];split at h
     ·rename_i t b off hld;simp only[hld];rcases aU h with⟨hs,h⟩|⟨_,h⟩
      ·obtain⟨v,h1,h2⟩:=iX h;obtain⟨xo,hop,hxo⟩:=qc hld;rw[hop]at h1;simp only[bF,hxo]at h1;simp only[h1,hs,ae];exact le h2
      ·exact h.elim
     rename_i hld;simp only[hld];rcases aU h with⟨hk,h⟩|⟨hk,h⟩
     ·rw[hk,ae];rcases aU h with⟨hs,h⟩|⟨_,h⟩
      ·obtain⟨v,h1,h2⟩:=iX h;rw[h1,hs];exact le h2
      ·exact h.elim
     ·rw[hk,ak];split at h
      ·rename_i l hl;rcases aU h with⟨hs,h⟩|⟨_,h⟩
       ·obtain⟨⟨v,s2⟩,ho,h⟩:=fJ h;rcases aU h with⟨hf,h⟩|⟨_,h⟩
        ·simp only[seeQ_ok hl ho hf];rw[hs];exact le h
        ·exact h.elim
       ·exact h.elim
      split at h
      ·rename_i v hv;simp only[hv];rcases aU h with⟨hs,h⟩|⟨_,h⟩
       ·rw[hs];exact le h
       ·exact h.elim
      rename_i hv;simp only[hv];obtain⟨⟨v,c⟩,h1,h2⟩:=valK_ok h;rw[h1];simp only
      rcases aU h2 with⟨hp,h2⟩|⟨hp,h2⟩
      ·rw[hp,ae];exact le h2
      ·rw[hp,ak];rcases aU h2 with⟨hm,h2⟩|⟨hm,h2⟩
       ·rw[hm,ae];rcases aU h2 with⟨hs,h2⟩|⟨_,h2⟩
        ·rw[hs,ae];exact le h2
        ·exact h2.elim
       ·rw[hm,ak];rcases aU h2 with⟨hs,h2⟩|⟨_,h2⟩
        ·rw[hs,ae];rcases aU h2 with⟨hl,h2⟩|⟨_,h2⟩
         ·rw[hl];exact le h2
         ·exact h2.elim
        ·exact h2.elim
   ·rw[hg];exact le h
  ·exact h.elim
def ancM:List Oper→List Nat→List Nat
 |[],l=>l
 |o::r,l=>ancM r (l++[o.after.toList.foldl (fun m e=>bif Region.binds .any e then m|||(1<<<e.on)|||l.getD e.on 0 else m) 0])
def loose(ops:Array Oper):Bool:=(ops.toList.zipIdx).any fun q=>match q.1.op with
 |.store .. =>(ops.toList.zipIdx.take q.2).any fun p=>match p.1.op with
  |.load .. =>!(Nat.testBit ((ancM ops.toList []).getD q.2 0) p.2)
  |_=>false
 |_=>false
def twoApps(ops:Array Oper):Bool:=ops.toList.any fun o=>match o.op with
 |.call {callee:=.builtin .append,args,argTypes:=_}=>match args.toList with
  |.tmp t::_=>ops.toList.any fun p=>match p.dst,p.op with
   |some d,.call {callee:=.builtin .append,args:=_,argTypes:=_}=>Nat.beq d t
   |_,_=>false
  |_=>false
 |_=>false
def stores(ops:Array Oper):Bool:=ops.toList.any fun o=>match o.op with|.store .. =>true|_=>false
def slAt(f:Fr)(t:Tmp):Bool:=match f.T.get t with
 |some (.slice ..)=>true
 |some .nilSlice=>true
 |_=>false
def appsOld(f:Fr)(ops:Array Oper):Bool:=ops.toList.any fun o=>match o.op with
 |.call {callee:=.builtin .append,args,argTypes:=_}=>match args.toList with
  |.tmp t::_=>slAt f t||ops.toList.any (fun p=>match p.dst,p.op with
   |some d,.move (.tmp k)=>Nat.beq d t&&slAt f k
   |_,_=>false)
  |_=>false
 |_=>false
def valB(f:Fr)(ops:Array Oper):Bool:=ops.toList.any fun o=>match o.op with
 |.call {callee:=.value (.tmp t),args:=_,argTypes:=_}=>match f.T.get t with
  |some (.func _ _ (_::_))=>true
  |some _=>false
  |none=>true
 |_=>false
def makesNone(P:Program)(ops:Array Oper):Bool:=ops.toList.all fun o=>match jQ P o.op with|.make=>false|_=>true
def drawK(P:Program)(cq:CallQ)(ops:Array Oper)(f:Fr)(st:St)(K:Fr→St→Prop):Prop:=
 bif (Region.lexB .any ops&&fM ops)&&(makesNone P ops&&!valB f ops)then jE P cq ops st ops.toList f [] (fun f'=>K f' st)
 else bif (fg (dh ops)&&(dh ops).all (fun d=>Nat.blt d f.sz))&&fM ops then
  bif loose ops||(twoApps ops&&!valB f ops)then False else
  bif stores ops||(appsOld f ops||valB f ops)then eK P cq ops f (nQ ops) ops.toList [] st 0 0 0 0 (fun recs fin=>K (iw f (ay recs)) fin)else
  rK P cq ops f st (dh ops) ops.toList [] (fun recs=>K (iw f recs) (st++ka recs))
 else False
theorem drawK_ok(hm:P.follows .mixedOrders=true)(hc:bS P (unq cq)){id:Nat}{ops:Array Oper}{Q:Exit→Fr→St→Prop}(h:drawK P cq ops f st (Q .normal)):CodeSat P ro (.region id ops true) f st Q:=by
 unfold drawK at h;rcases aU h with⟨h1,h⟩|⟨_,h⟩
 ·simp only[ad]at h1;obtain⟨f',h2,h3⟩:=gI KnOk.nil h;exact sat_draw hm hc h1.1.1 h1.1.2 h2 h3
 ·rcases aU h with⟨h1,h⟩|⟨_,h⟩
  ·rcases aU h with⟨_,h⟩|⟨_,h⟩
   ·exact h.elim
   rcases aU h with⟨_,h⟩|⟨_,h⟩
   ·obtain⟨⟨R,fin⟩,h2,h3⟩:=le h;exact mr hm hc (f':=iw f (ay R)) (st':=fin) (by unfold kF;rw[h1,ae,h2]) h3
   obtain⟨R,h2,h3⟩:=rK_ok h;exact mq hm hc (f':=iw f R) (st':=st++ka R) (by unfold mZ;rw[h1,ae,h2]) h3
  ·exact h.elim
abbrev Trans:=Fr→St→(Exit→Fr→St→Prop)→Prop
def sn(body:Trans):Nat→Trans
 |0=>fun _ _ _=>False
 |n+1=>fun f st K=>body f st (fun e f s=>match e with
  |.normal=>sn body n f s K
  |e=>K e f s)
def rangeK(P:Program)(ck:CallK)(ro:Option Nat)(g:Operand)(ps:Array Tmp)(as bd:Code)(f:Fr)(st:St)(K:Exit→Fr→St→Prop):Prop:=
 match ev f.T.get g with
 |some (.func (.func h) fs cs)=>bif bZ P h then
   match ro with
   |none=>ck (.fn h) (fs++[.yield (st.length+1)]++cs) (st++[.defd,.loop .ready none f.sz f.T ps as bd st.length]) (fun _ s2=>match s2[st.length+1]? with
    |some (.loop .busy _ _ _ _ _ _ _)=>False
    |some (.loop _ pend _ _ _ _ _ _)=>fD K ⟨f.sz,f.T,st.length::f.defs⟩ (s2.set (st.length+1) .dead) pend
    |_=>False)
   |some l0=>match st[l0]? with
    |some (.loop _ _ _ _ _ _ _ dn0)=>ck (.fn h) (fs++[.yield st.length]++cs) (st++[.loop .ready none f.sz f.T ps as bd dn0]) (fun _ s2=>match s2[st.length]? with
     |some (.loop .busy _ _ _ _ _ _ _)=>False
     |some (.loop _ pend _ _ _ _ _ _)=>fD K f (s2.set st.length .dead) pend
     |_=>False)
    |_=>False
  else False
 |_=>False
theorem rangeK_ok(hk:gG P ck){g:Operand}{ps:Array Tmp}{as bd:Code}{Q:Exit→Fr→St→Prop}(h:rangeK P ck ro g ps as bd f st Q):CodeSat P ro (.rangeFunc g ps as bd) f st Q:=by
 unfold rangeK at h;split at h
 ·rename_i h0 fs cs hg;rcases aU h with⟨hp,h⟩|⟨_,h⟩
  ·split at h
   ·refine rq hg hp ((hk (.fn h0) _ _ _ h).mono ?_);intro v s2 hq;split at hq
    ·exact hq.elim
    ·rename_i hne hl;exact⟨_,_,_,_,_,_,_,_,hl,fun e=>hne e,hq⟩
    ·exact hq.elim
   ·split at h
    ·rename_i hl0;refine mo hg hp hl0 ((hk (.fn h0) _ _ _ h).mono ?_);intro v s2 hq;split at hq
     ·exact hq.elim
     ·rename_i hne hl;exact⟨_,_,_,_,_,_,_,_,hl,fun e=>hne e,hq⟩
     ·exact hq.elim
    ·exact h.elim
  ·exact h.elim
 ·exact h.elim
def jumpK(P:Program)(cq:CallQ)(ro:Option Nat)(c:Code)(K:Exit→Fr→St→Prop):Exit→Fr→St→Prop
 |.goto l,f,s=>match findLabel c l with
  |some rest=>match jZ P (unq cq) 100 ro rest f s with
   |some (.goto _,_,_)=>False
   |some (e,f',s')=>K e f' s'
   |none=>False
  |none=>False
 |e,f,s=>K e f s
theorem jumpK_ok{P:Program}{cq:CallQ}(hm:P.follows .mixedOrders=true)(hc:bS P (unq cq)){ro:Option Nat}{c:Code}{K:Exit→Fr→St→Prop}:∀(e:Exit) (f:Fr) (s:St),jumpK P cq ro c K e f s→Jump P ro c K e f s:=by
 intro e f s h;cases e with
 |goto l=>
  simp only[jumpK]at h;split at h
  ·rename_i rest hf;refine⟨rest,hf,?_⟩;split at h
   ·exact h.elim
   ·rename_i e' f' s' hne he;refine(gh hm hc ro rest f s _ he).mono ?_;rintro e3 f3 s3 hq;cases hq;cases e' with
    |goto l3=>exact(hne _ rfl).elim
    |_=>exact h
   ·exact h.elim
  ·exact h.elim
 |_=>exact h
def dA(P:Program)(cq:CallQ)(ck:CallK)(lk:Nat→Trans→Trans)(ro:Option Nat):Nat→Code→Trans
 |_,.skip=>fun f st K=>K .normal f st
 |_,.label _=>fun f st K=>K .normal f st
 |_,.ret=>fun f st K=>K .ret f st
 |_,.exit id=>fun f st K=>K (.exit id) f st
 |_,.region _ ops false=>fun f st K=>opsK P ck ops ops.toList f st (K .normal)
 |_,.region _ ops true=>fun f st K=>drawK P cq ops f st (K .normal)
 |p,.seq a b=>fun f st K=>dA P cq ck lk ro (2*p) a f st (fun e f s=>match e with
  |.normal=>dA P cq ck lk ro (2*p+1) b f s K
  |e=>K e f s)
 |p,.cond c x y=>fun f st K=>match ev f.T.get c with
  |some (.bool b)=>match c with
   |.tmp t=>bif b then dA P cq ck lk ro (2*p) x (f.put (some t) (.bool true)) st K else dA P cq ck lk ro (2*p+1) y (f.put (some t) (.bool false)) st K
   |_=>bif b then dA P cq ck lk ro (2*p) x f st K else dA P cq ck lk ro (2*p+1) y f st K
  |_=>False
 |p,.block id c=>fun f st K=>dA P cq ck lk ro (2*p) c f st (fun e f s=>match e with
  |.exit id'=>bif Nat.beq id' id then K .normal f s else K (.exit id') f s
  |e=>K e f s)
 |p,.loop c=>fun f st K=>lk p (fun f st K=>dA P cq ck lk ro (2*p) c f st K) f st K
 |_,.rangeFunc g ps as bd=>fun f st K=>rangeK P ck ro g ps as bd f st K
 |_,.goto l=>fun f st K=>K (.goto l) f st
 |p,.scope c=>fun f st K=>dA P cq ck lk ro (2*p) c f st (jumpK P cq ro c K)
 |_,_=>fun _ _ _=>False
def f8(P:Program)(ro:Option Nat)(lk:Nat→Trans→Trans):Nat→Code→Prop
 |p,.seq a b=>f8 P ro lk (2*p) a∧f8 P ro lk (2*p+1) b
 |p,.cond _ a b=>f8 P ro lk (2*p) a∧f8 P ro lk (2*p+1) b
 |p,.block _ c=>f8 P ro lk (2*p) c
 |p,.scope c=>f8 P ro lk (2*p) c
 |p,.loop c=>f8 P ro lk (2*p) c∧∀body:Trans,(∀f st Q,body f st Q→CodeSat P ro c f st Q)→∀f st Q,lk p body f st Q→CodeSat P ro (.loop c) f st Q
 |_,_=>True
theorem sat_iterK{c:Code}{body:Trans}(hb:∀f st Q,body f st Q→CodeSat P ro c f st Q){Q:Exit→Fr→St→Prop}{n:Nat}(h:sn body n f st Q):CodeSat P ro (.loop c) f st Q:=by
 refine sat_loop (α:={x:Nat×Fr×St//sn body x.1 x.2.1 x.2.2 Q}) (fun x=>x.1.2.1) (fun x=>x.1.2.2) (fun x=>x.1.1) ⟨(n,f,st),h⟩ (Less.refl _) rfl ?_;rintro⟨⟨k,g,s⟩,hk⟩;cases k with
 |zero=>exact hk.elim
 |succ k=>
  refine(hb g s _ hk).mono ?_;intro e f' s' hq;cases e with
  |normal=>exact⟨⟨(k,f',s'),hq⟩,Less.refl _,rfl,Nat.lt_succ_self k⟩
  |_=>exact hq
theorem du(hm:P.follows .mixedOrders=true)(hc:bS P (unq cq))(hk:gG P ck){lk:Nat→Trans→Trans}:∀(c:Code) (p:Nat),f8 P ro lk p c→∀(f:Fr) (st:St) (Q:Exit→Fr→St→Prop),dA P cq ck lk ro p c f st Q→CodeSat P ro c f st Q
 |.skip,p,hl,f,st,Q,h=>pk h
 |.label _,p,hl,f,st,Q,h=>ng h
 |.ret,p,hl,f,st,Q,h=>ti h
 |.exit id,p,hl,f,st,Q,h=>pn h
 |.region id ops false,p,hl,f,st,Q,h=>by
  simp only[dA]at h;intro B W0 m a w F h1 h2 h3;refine wpIn_region ?_;have:=tM hk (ro:=ro) (F:=F) (Q:=Post B W0 m Q) ops.toList 0 (fun j=>by simp) f st h B W0 w m a h1 h2 h3 (fun a w ⟨m',f2,s2,e1,e2,e3,e4⟩=>⟨m',_,_,e1,e2,e3,e4⟩);simpa[List.range_eq_range']using this
 |.region id ops true,p,hl,f,st,Q,h=>drawK_ok hm hc h
 |.seq a b,p,hl,f,st,Q,h=>by
  simp only[dA]at h;refine sat_seq ((du hm hc hk a (2*p) hl.1 f st _ h).mono ?_);intro e f' s' hq;cases e with
  |normal=>exact du hm hc hk b (2*p+1) hl.2 f' s' Q hq
  |_=>exact hq
 |.cond c x y,p,hl,f,st,Q,h=>by
  simp only[dA]at h;split at h
  ·rename_i b hb;split at h
   ·rename_i t;rcases aU h with⟨rfl,h⟩|⟨rfl,h⟩
    ·refine iT hb (CodeSat.less (g:=f.put (some t) (.bool true)) (fun m a ha=>ha.known hb) ?_);exact du hm hc hk x (2*p) hl.1 _ st Q h
    ·refine iT hb (CodeSat.less (g:=f.put (some t) (.bool false)) (fun m a ha=>ha.known hb) ?_);exact du hm hc hk y (2*p+1) hl.2 _ st Q h
   ·rcases aU h with⟨rfl,h⟩|⟨rfl,h⟩
    ·exact iT hb (du hm hc hk x (2*p) hl.1 _ st Q h)
    ·exact iT hb (du hm hc hk y (2*p+1) hl.2 _ st Q h)
  ·exact h.elim
 |.block id c,p,hl,f,st,Q,h=>by
  simp only[dA]at h;refine rr ((du hm hc hk c (2*p) hl f st _ h).mono ?_);intro e f' s' hq;cases e with
  |exit id'=>
   simp only[jx];rcases aU hq with⟨h1,hq⟩|⟨h1,hq⟩
   ·rw[if_pos (aP h1)];exact hq
   ·rw[if_neg (fun q=>by rw[q,a9]at h1;cases h1)];exact hq
  |_=>exact hq
 |.loop c,p,hl,f,st,Q,h=>by
  simp only[dA]at h;exact hl.2 _ (fun f st Q hq=>du hm hc hk c (2*p) hl.1 f st Q hq) f st Q h
 |.rangeFunc g ps as bd,p,hl,f,st,Q,h=>rangeK_ok hk h
 |.scope c,p,hl,f,st,Q,h=>by
  simp only[dA]at h;exact rn ((du hm hc hk c (2*p) hl f st _ h).mono (jumpK_ok hm hc))
 |.goto _,p,hl,f,st,Q,h=>pm h
 |.refuse _,p,hl,f,st,Q,h=>by simp[dA]at h
def leaveK(P:Program)(fn:Func)(Q:V→St→Prop):Exit→Fr→St→Prop
 |.normal,f,st=>optK (lL P fn f st) (fun r=>Q r.1 r.2)
 |.ret,f,st=>optK (lL P fn f st) (fun r=>Q r.1 r.2)
 |_,_,_=>False
def fnK(P:Program)(cq:CallQ)(ck:CallK)(lk:Nat→Trans→Trans)(g:FuncId)(args:List V)(st:St)(Q:V→St→Prop):Prop:=
 match P.funcs[g]? with
 |some fn=>match fn.body with
  |some c=>bif Nat.ble args.length fn.ntmps then dA P cq ck lk none 1 c ⟨fn.ntmps,oA 0 .lf args,[]⟩ st (leaveK P fn Q)else False
  |none=>False
 |none=>False
def ah(lim:Nat):Nat→Trans→Trans:=fun _ body=>sn body lim
theorem fu(lim:Nat):∀(c:Code) (p:Nat),f8 P ro (ah lim) p c
 |.seq a b,p=>⟨fu lim a _,fu lim b _⟩
 |.cond _ a b,p=>⟨fu lim a _,fu lim b _⟩
 |.block _ c,p=>fu lim c _
 |.scope c,p=>fu lim c _
 |.loop c,p=>⟨fu lim c _,fun body hb f st Q h=>sat_iterK hb h⟩
 |.skip,_|.label _,_|.ret,_|.exit _,_|.region ..,_|.rangeFunc ..,_|.goto _,_|.refuse _,_=>trivial
def yldK(P:Program)(cq:CallQ)(ck:CallK)(lk:Nat→Trans→Trans)(l:Nat)(args:List V)(st:St)(Q:V→St→Prop):Prop:=
 match st[l]? with
 |some (.loop .ready none sz T ps as bd dn)=>bif Nat.beq args.length ps.size&&ps.toList.all (fun t=>Nat.blt t sz)then
   dA P cq ck lk (some l) 1 as ⟨sz,jf T ps.toList args,[]⟩ st (fun e f1 s1=>match e with
    |.normal=>match s1[l]? with
     |some (.loop .ready none sz' T' ps' as' bd' dn')=>dA P cq ck lk (some l) 1 bd f1 (s1.set l (.loop .busy none sz' T' ps' as' bd' dn')) (fun e f2 s2=>match s2[l]? with
      |some (.loop _ _ sz2 T2 ps2 as2 bd2 dn2)=>match ub e with
       |some j=>Q (.bool j.isNone) (s2.set l (.loop (if j.isNone then .ready else .done) j sz2 T2 ps2 as2 bd2 dn2))
       |none=>False
      |_=>False)
     |_=>False
    |_=>False)
  else False
 |_=>False
theorem yldK_ok(hm:P.follows .mixedOrders=true)(hc:bS P (unq cq))(hk:gG P ck){l:Nat}{lk:Nat→Trans→Trans}(hl:∀c,f8 P (some l) lk 1 c){args:List V}{Q:V→St→Prop}(h:yldK P cq ck lk l args st Q):qR P l args st Q:=by
 unfold yldK at h;split at h
 ·rename_i sz T ps as bd dn hlo;rcases aU h with⟨hb,h⟩|⟨_,h⟩
  ·simp only[ad]at hb;refine rp hlo (aP hb.1) hb.2 ((du hm hc hk as 1 (hl as) _ st _ h).mono ?_);intro e f1 s1 hq;cases e with
   |normal=>
    simp only at hq;split at hq
    ·rename_i sz' T' ps' as' bd' dn' hl1;refine⟨sz',T',ps',as',bd',dn',hl1,(du hm hc hk bd 1 (hl bd) _ _ _ hq).mono ?_⟩;intro e f2 s2 hq;split at hq
     ·rename_i stt pend sz2 T2 ps2 as2 bd2 dn2 hl2;split at hq
      ·rename_i j hj;exact⟨j,stt,pend,sz2,T2,ps2,as2,bd2,dn2,hj,hl2,hq⟩
      ·exact hq.elim
     ·exact hq.elim
    ·exact hq.elim
   |_=>exact hq.elim
  ·exact h.elim
 ·exact h.elim
end
end Go.Vm
namespace Go.Vm
variable [G:Glob] [Φ:Frz] [Z:LstFlag]
open Go.RowKit
abbrev PureF:=FuncId→List V→Option V
section
variable {P:Program} {F:PureF} {lim n:Nat} {ro:Option Nat} {f:Fr} {st:St}
def bR(p0:Nat):Nat→Code→List Code
 |p,.seq a b=>bR p0 (2*p) a++bR p0 (2*p+1) b
 |p,.cond _ a b=>bR p0 (2*p) a++bR p0 (2*p+1) b
 |p,.block _ c=>bR p0 (2*p) c
 |p,.scope c=>bR p0 (2*p) c
 |p,.loop c=>(bif Nat.beq p p0 then[c]else[])++bR p0 (2*p) c
 |_,_=>[]
def iq(P:Program)(g:FuncId):Code:=match P.funcs[g]? with
 |some fn=>fn.body.getD .skip
 |none=>.skip
def szOf(P:Program)(g:FuncId):Nat:=match P.funcs[g]? with
 |some fn=>fn.ntmps
 |none=>0
def cO(P:Program)(g:FuncId)(p0:Nat):Code:=(bR p0 1 (iq P g)).headD .skip
def ba(p0:Nat)(T:Trans)(lk:Nat→Trans→Trans):Nat→Trans→Trans:=fun p body=>bif Nat.beq p p0 then T else lk p body
def kV(T:Tr):List (Nat×V)→Tr
 |[]=>T
 |(t,v)::r=>kV (T.put t v) r
def frOf(sz:Nat)(l:List (Nat×V)):Fr:=⟨sz,kV .lf l,[]⟩
theorem kr:∀{l:List (Nat×V)} {T:Tr} {i:Nat} {u:V},(kV T l).get i=some u→(i,u)∈l∨T.get i=some u
 |[],T,i,u,h=>.inr h
 |(t,v)::r,T,i,u,h=>by
  rcases kr (l:=r) h with h|h
  ·exact .inl (List.mem_cons_of_mem _ h)
  ·rcases Tr.get_put h with⟨rfl,rfl⟩|⟨_,h⟩
   ·exact .inl List.mem_cons_self
   ·exact .inr h
def Has(f:Fr):List (Nat×V)→Prop
 |[]=>True
 |(t,v)::r=>f.T.get t=some v∧Has f r
theorem Has.mem{f:Fr}:∀{l:List (Nat×V)},Has f l→∀{t v},(t,v)∈l→f.T.get t=some v
 |(t',v')::r,h,t,v,hm=>by
  rcases List.mem_cons.1 hm with h1|h1
  ·cases h1;exact h.1
  ·exact Has.mem h.2 h1
theorem Less.of{f:Fr}{sz:Nat}{l:List (Nat×V)}(hs:f.sz=sz)(hd:f.defs=[])(h:Has f l):Less (frOf sz l) f:=by
 intro m a ha;refine⟨⟨by have:=ha.tmps.1;rw[hs]at this;exact this,fun t v hv=>?_⟩,by have:=ha.defers;rw[hd]at this;exact this⟩;rcases kr hv with h1|h1
 ·exact ha.tmps.2 t v (h.mem h1)
 ·simp[Tr.get,Tr.getF]at h1
def okF(sz:Nat)(f:Fr):Bool:=Nat.beq f.sz sz&&(match f.defs with|[]=>true|_=>false)
theorem okF_spec{sz:Nat}{f:Fr}(h:okF sz f=true):f.sz=sz∧f.defs=[]:=by
 unfold okF at h;rw[ad]at h;refine⟨aP h.1,?_⟩;cases hd:f.defs with
 |nil=>rfl
 |cons=>rw[hd]at h;simp at h
end
end Go.Vm
namespace Go.Vm
variable [G:Glob] [Φ:Frz] [Z:LstFlag]
open Go.RowKit
mutual
/-- A value, its names by a list of others. -/
def renV(σ:List Nat):V→Option V
 |.ptr b off=>match σ[b]? with
  |some c=>some (.ptr c off)
  |none=>none
 |.slice b off len ex c z=>match σ[b]? with
  |some d=>some (.slice d off len ex c z)
  |none=>none
 |.yield b=>match σ[b]? with
  |some c=>some (.yield c)
  |none=>none
 |.map b=>match σ[b]? with
  |some c=>some (.map c)
  |none=>none
 |.nos b n=>match σ[b]? with
  |some c=>some (.nos c n)
  |none=>none
 |.func fn fs cs=>match renL σ fs,renL σ cs with
  |some x,some y=>some (.func fn x y)
  |_,_=>none
 |.iface t v=>match renV σ v with
  |some x=>some (.iface t x)
  |none=>none
 |.agg cs=>match renL σ cs with
  |some x=>some (.agg x)
  |none=>none
 |.tuple vs=>match renL σ vs with
  |some x=>some (.tuple x)
  |none=>none
 |.bool b=>some (.bool b)
 |.int k n=>some (.int k n)
 |.str l=>some (.str l)
 |.nilPtr=>some .nilPtr
 |.nilSlice=>some .nilSlice
 |.nilFunc=>some .nilFunc
 |.nilIface=>some .nilIface
 |.nilMap=>some .nilMap
 |.gp k off=>some (.gp k off)
 |.lst x n cs=>some (.lst x n cs)
 |.lptr x n cs o=>some (.lptr x n cs o)
def renL(σ:List Nat):List V→Option (List V)
 |[]=>some []
 |v::r=>match renV σ v,renL σ r with
  |some x,some l=>some (x::l)
  |_,_=>none
end
def renM(σ:List Nat)(m:List MB):List MB:=σ.map fun i=>(m[i]?).getD hole
theorem jd{σ:List Nat}{m:List MB}{b c:Nat}{e:MB}(hb:σ[b]?=some c)(he:at? m c=some e):at? (renM σ m) b=some e:=by
 have h1:=cp he;refine lh ?_ (ir he);unfold renM;rw[List.getElem?_map,hb];simp[h1]
mutual
theorem gu{σ:List Nat}{m:List MB}:∀(v u:V) (x:Value),renV σ v=some u→real m u=some x→real (renM σ m) v=some x
 |.ptr b off,u,x,h,hx=>by
  simp only[renV]at h;cases hb:σ[b]? with
  |none=>simp[hb]at h
  |some c=>
   simp only[hb,af]at h;subst h;obtain⟨e,he,rfl⟩:=cS hx;simp only[real,jd hb he]
 |.slice b off len ex c z,u,x,h,hx=>by
  simp only[renV]at h;cases hb:σ[b]? with
  |none=>simp[hb]at h
  |some d=>
   simp only[hb,af]at h;subst h;simp only[real]at hx ⊢;cases he:at? m d with
   |none=>simp[he]at hx
   |some e=>simp only[he]at hx;simp only[jd hb he];exact hx
 |.map b,u,x,h,hx=>by
  simp only[renV]at h;cases hb:σ[b]? with
  |none=>simp[hb]at h
  |some c=>
   simp only[hb,af]at h;subst h;simp only[real]at hx ⊢;cases he:at? m c with
   |none=>simp[he]at hx
   |some e=>simp only[he]at hx;simp only[jd hb he];exact hx
 |.nos b n,u,x,h,hx=>by
  simp only[renV]at h;cases hb:σ[b]? with
  |none=>simp[hb]at h
  |some c=>
   simp only[hb,af]at h;subst h;simp only[real]at hx ⊢;cases he:at? m c with
   |none=>simp[he]at hx
   |some e=>simp only[he]at hx;simp only[jd hb he];exact hx
 |.yield b,u,x,h,hx=>by
  simp only[renV]at h;cases hb:σ[b]? with
  |none=>simp[hb]at h
  |some c=>
   simp only[hb,af]at h;subst h;simp only[real]at hx ⊢;cases he:at? m c with
   |none=>simp[he]at hx
   |some e=>simp only[he]at hx;simp only[jd hb he];exact hx
 |.func fn fs cs,u,x,h,hx=>by
  simp only[renV]at h;cases h1:renL σ fs with
  |none=>simp[h1]at h
  |some a=>
   cases h2:renL σ cs with
   |none=>simp[h1,h2]at h
   |some b=>
    simp only[h1,h2,af]at h;subst h;simp only[real]at hx ⊢;cases g1:ap m a with
    |none=>simp[g1]at hx
    |some xs=>
     cases g2:ap m b with
     |none=>simp[g1,g2]at hx
     |some ys=>simp only[g1,g2]at hx;simp only[gw fs a xs h1 g1,gw cs b ys h2 g2];exact hx
 |.iface t v,u,x,h,hx=>by
  simp only[renV]at h;cases h1:renV σ v with
  |none=>simp[h1]at h
  |some a=>
   simp only[h1,af]at h;subst h;simp only[real]at hx ⊢;cases g1:real m a with
   |none=>simp[g1]at hx
   |some y=>simp only[g1]at hx;simp only[gu v a y h1 g1];exact hx
 |.agg cs,u,x,h,hx=>by
  simp only[renV]at h;cases h1:renL σ cs with
  |none=>simp[h1]at h
  |some a=>
   simp only[h1,af]at h;subst h;simp only[real]at hx ⊢;cases g1:ap m a with
   |none=>simp[g1]at hx
   |some y=>simp only[g1]at hx;simp only[gw cs a y h1 g1];exact hx
 |.tuple cs,u,x,h,hx=>by
  simp only[renV]at h;cases h1:renL σ cs with
  |none=>simp[h1]at h
  |some a=>
   simp only[h1,af]at h;subst h;simp only[real]at hx ⊢;cases g1:ap m a with
   |none=>simp[g1]at hx
   |some y=>simp only[g1]at hx;simp only[gw cs a y h1 g1];exact hx
 |.bool _,u,x,h,hx|.int _ _,u,x,h,hx|.str _,u,x,h,hx|.nilPtr,u,x,h,hx|.nilSlice,u,x,h,hx|.nilFunc,u,x,h,hx|.nilIface,u,x,h,hx|.nilMap,u,x,h,hx|.gp _ _,u,x,h,hx|.lst ..,u,x,h,hx|.lptr ..,u,x,h,hx=>by
  simp only[renV,af]at h;subst h;simpa only[real]using hx
theorem gw{σ:List Nat}{m:List MB}:∀(l l':List V) (x:List Value),renL σ l=some l'→ap m l'=some x→ap (renM σ m) l=some x
 |[],l',x,h,hx=>by simp only[renL,af]at h;subst h;simpa[ap]using hx
 |v::r,l',x,h,hx=>by
  simp only[renL]at h;cases h1:renV σ v with
  |none=>simp[h1]at h
  |some a=>
   cases h2:renL σ r with
   |none=>simp[h1,h2]at h
   |some b=>
    simp only[h1,h2,af]at h;subst h;obtain⟨y,ys,g1,g2,rfl⟩:=aj hx;exact aI (gu v a y h1 g1) (gw r b ys h2 g2)
end
theorem pz{σ:List Nat}:∀{l l':List V} {i:Nat} {v:V},renL σ l=some l'→l[i]?=some v→∃u,renV σ v=some u∧l'[i]?=some u
 |[],l',i,v,h,hi=>by simp at hi
 |w::r,l',i,v,h,hi=>by
  simp only[renL]at h;cases h1:renV σ w with
  |none=>simp[h1]at h
  |some a=>
   cases h2:renL σ r with
   |none=>simp[h1,h2]at h
   |some b=>
    simp only[h1,h2,af]at h;subst h;cases i with
    |zero=>simp only[ce,af]at hi;subst hi;exact⟨a,h1,rfl⟩
    |succ i=>
     simp only[List.getElem?_cons_succ]at hi ⊢;exact pz h2 hi
def renO(σ:List Nat):Option V→Option (Option V)
 |none=>some none
 |some v=>match renV σ v with
  |some u=>some (some u)
  |none=>none
def renT(σ:List Nat):Tr→Option Tr
 |.lf=>some .lf
 |.nd l v r=>match renT σ l,renO σ v,renT σ r with
  |some a,some u,some b=>some (.nd a u b)
  |_,_,_=>none
theorem ni{σ:List Nat}:∀(f:Nat) (T T':Tr) (k:Nat) (v:V),renT σ T=some T'→Tr.getF f T k=some v→∃u,renV σ v=some u∧Tr.getF f T' k=some u
 |0,_,_,_,_,_,h=>by simp[Tr.getF]at h
 |f+1,.lf,_,_,_,_,h=>by simp[Tr.getF]at h
 |f+1,.nd l v r,T',k,u,h,hk=>by
  simp only[renT]at h;cases h1:renT σ l with
  |none=>simp[h1]at h
  |some a=>
   cases h2:renO σ v with
   |none=>simp[h1,h2]at h
   |some b=>
    cases h3:renT σ r with
    |none=>simp[h1,h2,h3]at h
    |some c=>
     simp only[h1,h2,h3,af]at h;subst h;cases k with
     |zero=>
      simp only[Tr.getF]at hk ⊢;subst hk;simp only[renO]at h2;cases h4:renV σ u with
      |none=>simp[h4]at h2
      |some x=>simp only[h4,af]at h2;subst h2;exact⟨x,rfl,rfl⟩
     |succ j=>
      simp only[Tr.getF]at hk ⊢;cases hb:Nat.beq (j%2) 0 with
      |true=>rw[hb,ae]at hk;exact ni f l a (j/2) u h1 hk
      |false=>rw[hb,ak]at hk;exact ni f r c (j/2) u h3 hk
def renB(σ:List Nat):Blk→Option Blk
 |.dead=>some .dead
 |.ro own cs=>match renL σ cs with
  |some x=>some (.ro own x)
  |none=>none
 |.row cs t sz=>match renL σ cs with
  |some x=>some (.row x t sz)
  |none=>none
 |.defd=>some .defd
 |.mpu=>some .mpu
 |.mp cs=>match renL σ cs with
  |some x=>some (.mp x)
  |none=>none
 |.sit s p=>some (.sit s p)
 |.loop s p sz T ps as bd d=>match renT σ T,σ[d]? with
  |some T',some d'=>some (.loop s p sz T' ps as bd d')
  |_,_=>none
theorem renB_ok{σ:List Nat}{m:List MB}{B:Nat}{w:World}{e:MB}:∀{b b':Blk},renB σ b=some b'→BlkOk B m w e b'→BlkOk B (renM σ m) w e b
 |.dead,_,_,_=>trivial
 |.ro own cs,b',h,hb=>by
  simp only[renB]at h;cases h1:renL σ cs with
  |none=>simp[h1]at h
  |some x=>
   simp only[h1,af]at h;subst h;obtain⟨g1,arr,t,fz,g2,g3⟩:=hb;refine⟨g1,arr,t,fz,g2,fun i v hv=>?_⟩;obtain⟨u,k1,k2⟩:=pz h1 hv;obtain⟨y,k3,k4⟩:=g3 i u k2;exact⟨y,gu v u y k1 k3,k4⟩
 |.row cs t sz,b',h,hb=>by
  simp only[renB]at h;cases h1:renL σ cs with
  |none=>simp[h1]at h
  |some x=>
   simp only[h1,af]at h;subst h;obtain⟨g1,g2,arr,xs,g3,g4,g5⟩:=hb;exact⟨g1,g2,arr,xs,g3,gw cs x xs h1 g4,g5⟩
 |.defd,b',h,hb=>by simp only[renB,af]at h;subst h;exact hb
 |.mpu,b',h,hb=>by simp only[renB,af]at h;subst h;exact hb
 |.mp cs,b',h,hb=>by
  simp only[renB]at h;cases h1:renL σ cs with
  |none=>simp[h1]at h
  |some x=>
   simp only[h1,af]at h;subst h;obtain⟨g1,es,c,xs,g3,g4,g5⟩:=hb;exact⟨g1,es,c,xs,g3,gw cs x xs h1 g4,g5⟩
 |.sit s p,b',h,hb=>by simp only[renB,af]at h;subst h;exact hb
 |.loop s p sz T ps as bd d,b',h,hb=>by
  simp only[renB]at h;cases h1:renT σ T with
  |none=>simp[h1]at h
  |some T'=>
   cases h2:σ[d]? with
   |none=>simp[h1,h2]at h
   |some d'=>
    simp only[h1,h2,af]at h;subst h;obtain⟨g1,fn,tmps,dd,g2,g3,g4⟩:=hb;refine⟨g1,fn,tmps,dd,jd h2 g2,g3,g4.1,fun t v hv=>?_⟩;obtain⟨u,k1,k2⟩:=ni 12 T T' t v h1 hv;obtain⟨y,k3,k4⟩:=g4.2 t u k2;exact⟨y,k3,gu v u y k1 k4⟩
theorem renB_rw{σ:List Nat}{b b':Blk}(h:renB σ b=some b'):(b.rw=true→b'.rw=true)∧(b.live=true→b'.live=true):=by
 cases b<;>simp only[renB]at h
 all_goals first|(cases h;exact⟨fun h=>h,fun h=>h⟩)|(split at h<;>cases h;exact⟨fun h=>h,fun h=>h⟩)
def FitT(σ:List Nat)(T T2:Tr):Prop:=∀t v,T.get t=some v→∃u,renV σ v=some u∧T2.get t=some u
theorem FitT.of{σ:List Nat}{T2:Tr}:∀{l:List (Nat×V)},(∀t v,(t,v)∈l→∃u,renV σ v=some u∧T2.get t=some u)→FitT σ (kV .lf l) T2:=by
 intro l h t v hv;rcases kr hv with h1|h1
 ·exact h t v h1
 ·simp[Tr.get,Tr.getF]at h1
def FitB(σ:List Nat)(b b':Blk):Prop:=
 renB σ b=some b'∨∃s p sz T ps as bd d T' d',b=.loop s p sz T ps as bd d∧b'=.loop s p sz T' ps as bd d'∧σ[d]?=some d'∧FitT σ T T'
theorem FitB.ok{σ:List Nat}{m:List MB}{B:Nat}{w:World}{e:MB}{b b':Blk}(h:FitB σ b b')(hb:BlkOk B m w e b'):BlkOk B (renM σ m) w e b:=by
 rcases h with h|⟨s,p,sz,T,ps,as,bd,d,T',d',rfl,rfl,h2,h1⟩
 ·exact renB_ok h hb
 ·obtain⟨g1,fn,tmps,dd,g2,g3,g4⟩:=hb;refine⟨g1,fn,tmps,dd,jd h2 g2,g3,g4.1,fun t v hv=>?_⟩;obtain⟨u,k1,k2⟩:=h1 t v hv;obtain⟨y,k3,k4⟩:=g4.2 t u k2;exact⟨y,k3,gu v u y k1 k4⟩
theorem FitB.rw{σ:List Nat}{b b':Blk}(h:FitB σ b b'):(b.rw=true→b'.rw=true)∧(b.live=true→b'.live=true):=by
 rcases h with h|⟨s,p,sz,T,ps,as,bd,d,T',d',rfl,rfl,h2,h1⟩
 ·exact renB_rw h
 ·exact⟨fun h=>h,fun h=>h⟩
def FitsM(σ:List Nat)(s st:St):Prop:=σ.length=s.length∧∀(i c:Nat) (b:Blk),σ[i]?=some c→s[i]?=some b→b≠.dead→∃b',FitB σ b b'∧st[c]?=some b'
def FitsL(σ:List Nat)(st:St):List Nat→St→Prop
 |[],[]=>True
 |c::r,b::s=>(b=.dead∨∃b',FitB σ b b'∧st[c]?=some b')∧FitsL σ st r s
 |_,_=>False
theorem FitsL.spec{σ:List Nat}{st:St}:∀{l:List Nat} {s:St},FitsL σ st l s→l.length=s.length∧∀(i c:Nat) (b:Blk),l[i]?=some c→s[i]?=some b→b≠.dead→∃b',FitB σ b b'∧st[c]?=some b'
 |[],[],_=>⟨rfl,fun i c b h=>by simp at h⟩
 |c::r,b::s,h=>by
  obtain⟨h1,h2⟩:=FitsL.spec h.2;refine⟨by simp[h1],fun i c' b' hi hb hd=>?_⟩;cases i with
  |zero=>
   simp only[ce,af]at hi hb;subst hi hb;rcases h.1 with h3|h3
   ·exact absurd h3 hd
   ·exact h3
  |succ i=>exact h2 i c' b' (by simpa using hi) (by simpa using hb) hd
 |[],_::_,h=>h.elim
 |_::_,[],h=>h.elim
theorem FitsM.of{σ:List Nat}{s st:St}(h:FitsL σ st σ s):FitsM σ s st:=h.spec
theorem Rel.ren{B:Nat}{W0 w:World}{m:List MB}{st s:St}{σ:List Nat}(h:Rel B W0 m st w)(hn:σ.Nodup)(hf:FitsM σ s st):Rel B W0 (renM σ m) s w:=by
 have look:∀{i:Nat} {b:Blk} {e:MB},s[i]?=some b→b≠.dead→(renM σ m)[i]?=some e→∃c b',σ[i]?=some c∧FitB σ b b'∧st[c]?=some b'∧m[c]?=some e:=by
  intro i b e hs hd he;unfold renM at he;rw[List.getElem?_map]at he;cases hc:σ[i]? with
  |none=>rw[hc]at he;cases he
  |some c=>
   rw[hc]at he;obtain⟨b',h1,h2⟩:=hf.2 i c b hc hs hd;obtain⟨e',h3,_⟩:=h.at h2;simp only[Option.map_some,h3,Option.getD_some,af]at he;subst he;exact⟨c,b',rfl,h1,h2,h3⟩
 refine⟨by simp[renM,hf.1],h.base,h.below,fun i b e hb he=>?_,fun i j b c d e hij hb hrw hc hlv hd he=>?_,h.glob⟩
 ·by_cases hdead:b=.dead
  ·subst hdead;trivial
  ·obtain⟨c,b',h1,h2,h3,h4⟩:=look hb hdead he;exact h2.ok (h.blk c b' e h3 h4)
 ·obtain⟨k1,b1,g1,g2,g3,g4⟩:=look hb (by rintro rfl;cases hrw) hd;obtain⟨k2,b2,l1,l2,l3,l4⟩:=look hc (by rintro rfl;cases hlv) he;refine h.inj k1 k2 b1 b2 d e ?_ g3 (g2.rw.1 hrw) l3 (l2.rw.2 hlv) g4 l4;rintro rfl;exact hij ((List.getElem?_inj (List.getElem?_eq_some_iff.1 g1).1 hn).1 (g1.trans l1.symm))
def PostW(B:Nat)(W0:World)(M0:List MB)(Q:Exit→Fr→St→Prop):Exit→Act→World→Prop:=
 fun e a w=>∃m' f st,Ext M0 m'∧AOk m' f a∧Rel B W0 m' st w∧Q e f st
def CodeSatW(P:Program)(ro:Option Nat)(k:Nat)(c:Code)(f:Fr)(st:St)(Q:Exit→Fr→St→Prop):Prop:=
 ∀B W0 M0 m a w F,M0.length≤k→Ext M0 m→FOk M0 ro F→AOk m f a→Rel B W0 m st w→c.wpIn F 0 P (PostW B W0 M0 Q) a w
def Keeps(k:Nat)(σ:List Nat):Prop:=∀i,i<k→σ[i]?=some i
theorem ky{k:Nat}{σ:List Nat}{M0 m:List MB}(hk:Keeps k σ)(hl:M0.length≤k)(he:Ext M0 m):Ext M0 (renM σ m):=by
 intro b e hb;have hlt:b<k:=Nat.lt_of_lt_of_le (List.getElem?_eq_some_iff.1 hb).1 hl;unfold renM;rw[List.getElem?_map,hk b hlt];simp[he b e hb]
def Fits(k:Nat)(vs:List V)(s:St)(l:List (Option V))(st:St):Prop:=
 ∃σ us,l=us.map some∧renL σ vs=some us∧FitsM σ s st∧σ.Nodup∧Keeps k σ
section
variable {P:Program} {cq:CallQ} {ck:CallK} {lim n:Nat} {ro:Option Nat} {k:Nat} {f:Fr} {st:St} {Q:Exit→Fr→St→Prop}
theorem CodeSatW.of{c:Code}(h:CodeSat P ro c f st Q):CodeSatW P ro k c f st Q:=by
 intro B W0 M0 m a w F hl he hF hA hr;refine wpIn_mono (h B W0 m a w F (hF.mono he) hA hr) ?_;rintro e a' w' ⟨m',f',st',e1,e2,e3,e4⟩;exact⟨m',f',st',he.trans e1,e2,e3,e4⟩
theorem CodeSatW.mono{c:Code}{Q':Exit→Fr→St→Prop}(h:CodeSatW P ro k c f st Q)(hq:∀e f s,Q e f s→Q' e f s):CodeSatW P ro k c f st Q':=by
 intro B W0 M0 m a w F hl he hF hA hr;refine wpIn_mono (h B W0 M0 m a w F hl he hF hA hr) ?_;rintro e a' w' ⟨m',f',st',e1,e2,e3,e4⟩;exact⟨m',f',st',e1,e2,e3,hq _ _ _ e4⟩
theorem CodeSatW.less{c:Code}{g:Fr}(hl:Less g f)(h:CodeSatW P ro k c g st Q):CodeSatW P ro k c f st Q:=
 fun B W0 M0 m a w F h0 h1 h2 h3 h4=>h B W0 M0 m a w F h0 h1 h2 (hl m a h3) h4
theorem satW_seq{x y:Code}(h:CodeSatW P ro k x f st (Nxt (fun f s=>CodeSatW P ro k y f s Q) Q)):CodeSatW P ro k (.seq x y) f st Q:=by
 intro B W0 M0 m a w F hl he hF hA hr;refine wpIn_seq (wpIn_mono (h B W0 M0 m a w F hl he hF hA hr) ?_);rintro e a' w' ⟨m',f',st',e1,e2,e3,e4⟩;cases e with
 |normal=>exact e4 B W0 M0 m' a' w' F hl e1 hF e2 e3
 |_=>exact⟨m',f',st',e1,e2,e3,e4⟩
theorem kf{c:Operand}{x y:Code}{b:Bool}(hc:ev f.T.get c=some (.bool b))(h:CodeSatW P ro k (if b then x else y) f st Q):CodeSatW P ro k (.cond c x y) f st Q:=
 fun B W0 M0 m a w F hl he hF hA hr=>wpIn_cond (dl (hA.ev _ _ hc)) (h B W0 M0 m a w F hl he hF hA hr)
theorem satW_scope{c:Code}(h:CodeSatW P ro k c f st (Jump P ro c Q)):CodeSatW P ro k (.scope c) f st Q:=by
 intro B W0 M0 m a w F hl he hF hA hr;refine o9 (wpIn_mono (h B W0 M0 m a w F hl he hF hA hr) ?_);rintro e a' w' ⟨m',f',st',e1,e2,e3,e4⟩;cases e with
 |goto l=>
  obtain⟨rest,h1,h2⟩:=e4;refine⟨rest,h1,wpIn_mono (h2 B W0 m' a' w' F (hF.mono e1) e2 e3) ?_⟩;rintro e5 a5 w5 ⟨m5,f5,s5,q1,q2,q3,q4⟩;cases e5 with
  |goto l5=>exact q4.elim
  |_=>exact⟨m5,f5,s5,e1.trans q1,q2,q3,q4⟩
 |_=>exact⟨m',f',st',e1,e2,e3,e4⟩
theorem satW_block{id:Nat}{c:Code}(h:CodeSatW P ro k c f st (jx id Q)):CodeSatW P ro k (.block id c) f st Q:=by
 intro B W0 M0 m a w F hl he hF hA hr;refine wpIn_block (wpIn_mono (h B W0 M0 m a w F hl he hF hA hr) ?_);rintro e a' w' ⟨m',f',st',e1,e2,e3,e4⟩;cases e with
 |exit id'=>
  simp only[Exit.inBlock,jx]at e4 ⊢;split
  ·rename_i h;rw[if_pos h]at e4;exact⟨m',f',st',e1,e2,e3,e4⟩
  ·rename_i h;rw[if_neg h]at e4;exact⟨m',f',st',e1,e2,e3,e4⟩
 |_=>exact⟨m',f',st',e1,e2,e3,e4⟩
theorem lO{ts:List Nat}{sz:Nat}{vs us:List V}{σ:List Nat}{m:List MB}{a:Act}(ho:okF sz f=true)(hA:AOk m f a)(hl:ts.map f.T.get=us.map some)(hr:renL σ vs=some us):AOk (renM σ m) (frOf sz (ts.zip vs)) a:=by
 obtain⟨h1,h2⟩:=okF_spec ho;have hd:=hA.defers;rw[h2]at hd;refine⟨⟨by have:=hA.tmps.1;rw[h1]at this;exact this,fun t v hv=>?_⟩,by
  cases hdd:a.defers with
  |nil=>rw[frOf];trivial
  |cons x r=>rw[hdd]at hd;exact hd.elim⟩
 rcases kr hv with hz|hz
 ·-- the place of it among them
  obtain⟨i,hi⟩:=List.mem_iff_getElem?.1 hz;rw[List.getElem?_zip_eq_some]at hi;obtain⟨u,k1,k2⟩:=pz hr hi.2;have h3:(ts.map f.T.get)[i]?=(us.map some)[i]?:=by rw[hl]
  simp only[List.getElem?_map,hi.1,k2,Option.map_some,af]at h3;obtain⟨y,g1,g2⟩:=hA.tmps.2 t u h3;exact⟨y,g1,gu v u y k1 g2⟩
 ·simp[Tr.get,Tr.getF]at hz
abbrev Asks(α:Type):=α→(Exit→List V→St→Prop)→Prop
def aD{α:Type}(k:Nat)(pre:α→Bool)(vs:α→List V)(J:α→St)(μ:α→Nat)(outs:Asks α)(x:α):Exit→List (Option V)→St→Prop
 |.normal,l,s=>∃x',pre x'=true∧Fits k (vs x') (J x') l s∧μ x'<μ x∧∀K,outs x K→outs x' K
 |e,l,s=>∃vs' s',(∀K,outs x K→K e vs' s')∧Fits k vs' s' l s
theorem loopA_law{α:Type}{c:Code}{sz:Nat}{ts:List Nat}{pre:α→Bool}(vs:α→List V)(J:α→St)(μ:α→Nat)(outs:Asks α)
  (round:∀x,pre x=true→CodeSatW P ro k c (frOf sz (ts.zip (vs x))) (J x) (fun e f s=>okF sz f=true∧aD k pre vs J μ outs x e (ts.map f.T.get) s))
  (x:α)(hp:pre x=true)(hs:okF sz f=true)(hh:Fits k (vs x) (J x) (ts.map f.T.get) st)(hq:outs x (fun e l s=>Q e (frOf sz (ts.zip l)) s)):CodeSatW P ro k (.loop c) f st Q:=by
 intro B W0 M0 m a w F hl he hF hA hr;obtain⟨σ,us,f1,f2,f3,f4,f5⟩:=hh;refine fi (α:={y:α//pre y=true∧outs y (fun e l s=>Q e (frOf sz (ts.zip l)) s)}) (fun y a w=>∃m',Ext M0 m'∧AOk m' (frOf sz (ts.zip (vs y.1))) a∧Rel B W0 m' (J y.1) w) (fun y=>μ y.1) (x:=⟨x,hp,hq⟩)
  ⟨renM σ m,ky f5 hl he,lO hs hA f1 f2,hr.ren f4 f3⟩ ?_
 rintro⟨y,hyp,hy⟩ a1 w1 ⟨m1,e1,e2,e3⟩;refine wpIn_mono (round y hyp B W0 M0 m1 a1 w1 F hl e1 hF e2 e3) ?_;rintro e a' w' ⟨m',f',st',g1,g2,g3,g4,g5⟩;cases e with
 |normal=>
  obtain⟨y',k0,⟨σ',us',k1,k2,k3,k4,k5⟩,k6,k7⟩:=g5;exact⟨⟨y',k0,k7 _ hy⟩,⟨renM σ' m',ky k5 hl g1,lO g4 g2 k1 k2,g3.ren k4 k3⟩,k6⟩
 |_=>
  obtain⟨vs',s',k6,σ',us',k1,k2,k3,k4,k5⟩:=g5;exact⟨renM σ' m',_,_,ky k5 hl g1,lO g4 g2 k1 k2,g3.ren k4 k3,k6 _ hy⟩
theorem satW_iterK{c:Code}{body:Trans}(hb:∀f st Q,body f st Q→CodeSatW P ro k c f st Q){n:Nat}(h:sn body n f st Q):CodeSatW P ro k (.loop c) f st Q:=by
 intro B W0 M0 m a w F hl he hF hA hr;refine fi (α:={x:Nat×Fr×St//sn body x.1 x.2.1 x.2.2 Q}) (fun y a w=>∃m',Ext M0 m'∧AOk m' y.1.2.1 a∧Rel B W0 m' y.1.2.2 w) (fun x=>x.1.1) (x:=⟨(n,f,st),h⟩) ⟨m,he,hA,hr⟩ ?_;rintro⟨⟨j,g,s⟩,hk⟩ a1 w1 ⟨m1,e1,e2,e3⟩;cases j with
 |zero=>exact hk.elim
 |succ j=>
  refine wpIn_mono (hb g s _ hk B W0 M0 m1 a1 w1 F hl e1 hF e2 e3) ?_;rintro e a' w' ⟨m',f',s',g1,g2,g3,g4⟩;cases e with
  |normal=>exact⟨⟨(j,f',s'),g4⟩,⟨m',g1,g2,g3⟩,Nat.lt_succ_self j⟩
  |_=>exact⟨m',f',s',g1,g2,g3,g4⟩
def eb(P:Program)(ro:Option Nat)(k:Nat)(lk:Nat→Trans→Trans):Nat→Code→Prop
 |p,.seq a b=>eb P ro k lk (2*p) a∧eb P ro k lk (2*p+1) b
 |p,.cond _ a b=>eb P ro k lk (2*p) a∧eb P ro k lk (2*p+1) b
 |p,.block _ c=>eb P ro k lk (2*p) c
 |p,.scope c=>eb P ro k lk (2*p) c
 |p,.loop c=>eb P ro k lk (2*p) c∧∀body:Trans,(∀f st Q,body f st Q→CodeSatW P ro k c f st Q)→∀f st Q,lk p body f st Q→CodeSatW P ro k (.loop c) f st Q
 |_,_=>True
theorem dP(hm:P.follows .mixedOrders=true)(hc:bS P (unq cq))(hk:gG P ck){lk:Nat→Trans→Trans}:∀(c:Code) (p:Nat),eb P ro k lk p c→∀(f:Fr) (st:St) (Q:Exit→Fr→St→Prop),dA P cq ck lk ro p c f st Q→CodeSatW P ro k c f st Q
 |.skip,p,hl,f,st,Q,h=>.of (pk h)
 |.label _,p,hl,f,st,Q,h=>.of (ng h)
 |.ret,p,hl,f,st,Q,h=>.of (ti h)
 |.exit id,p,hl,f,st,Q,h=>.of (pn h)
 |.region id ops false,p,hl,f,st,Q,h=>.of (du hm hc hk (lk:=lk) (.region id ops false) p trivial f st Q h)
 |.region id ops true,p,hl,f,st,Q,h=>.of (du hm hc hk (lk:=lk) (.region id ops true) p trivial f st Q h)
 |.rangeFunc g ps as bd,p,hl,f,st,Q,h=>.of (du hm hc hk (lk:=lk) (.rangeFunc g ps as bd) p trivial f st Q h)
 |.seq a b,p,hl,f,st,Q,h=>by
  simp only[dA]at h;refine satW_seq ((dP hm hc hk a (2*p) hl.1 f st _ h).mono ?_);intro e f' s' hq;cases e with
  |normal=>exact dP hm hc hk b (2*p+1) hl.2 f' s' Q hq
  |_=>exact hq
 |.cond c x y,p,hl,f,st,Q,h=>by
  simp only[dA]at h;split at h
  ·rename_i b hb;split at h
   ·rename_i t;rcases aU h with⟨rfl,h⟩|⟨rfl,h⟩
    ·refine kf hb (CodeSatW.less (g:=f.put (some t) (.bool true)) (fun m a ha=>ha.known hb) ?_);exact dP hm hc hk x (2*p) hl.1 _ st Q h
    ·refine kf hb (CodeSatW.less (g:=f.put (some t) (.bool false)) (fun m a ha=>ha.known hb) ?_);exact dP hm hc hk y (2*p+1) hl.2 _ st Q h
   ·rcases aU h with⟨rfl,h⟩|⟨rfl,h⟩
    ·exact kf hb (dP hm hc hk x (2*p) hl.1 _ st Q h)
    ·exact kf hb (dP hm hc hk y (2*p+1) hl.2 _ st Q h)
  ·exact h.elim
 |.block id c,p,hl,f,st,Q,h=>by
  simp only[dA]at h;refine satW_block ((dP hm hc hk c (2*p) hl f st _ h).mono ?_);intro e f' s' hq;cases e with
  |exit id'=>
   simp only[jx];rcases aU hq with⟨h1,hq⟩|⟨h1,hq⟩
   ·rw[if_pos (aP h1)];exact hq
   ·rw[if_neg (fun q=>by rw[q,a9]at h1;cases h1)];exact hq
  |_=>exact hq
 |.loop c,p,hl,f,st,Q,h=>by
  simp only[dA]at h;exact hl.2 _ (fun f st Q hq=>dP hm hc hk c (2*p) hl.1 f st Q hq) f st Q h
 |.scope c,p,hl,f,st,Q,h=>by
  simp only[dA]at h;exact satW_scope ((dP hm hc hk c (2*p) hl f st _ h).mono (jumpK_ok hm hc))
 |.goto _,p,hl,f,st,Q,h=>.of (pm h)
 |.refuse _,p,hl,f,st,Q,h=>by simp[dA]at h
def aQ(P:Program)(k:Nat)(lk:Nat→Trans→Trans)(g:FuncId):Prop:=
 match P.funcs[g]? with
 |some fn=>match fn.body with
  |some c=>eb P none k lk 1 c
  |none=>True
 |none=>True
theorem fnSat_of_W{g:FuncId}{fn:Func}{c:Code}{args:List V}{Q:V→St→Prop}(hf:P.funcs[g]?=some fn)(hb:fn.body=some c)(hl:args.length≤fn.ntmps)
  (h:CodeSatW P none st.length c ⟨fn.ntmps,oA 0 .lf args,[]⟩ st (Leave P fn Q)):FnSat P g args st Q:=by
 intro B W0 m w rargs hargs hr;have hlen:=bt hargs;refine callsIn_wide.1 (callsIn_of_wp_marks (n:=0) (F:=Fence.wide) hf hb trivial ?_ rfl);have hA:AOk m ⟨fn.ntmps,oA 0 .lf args,[]⟩ {tmps:=rargs.toArray++Array.replicate (fn.ntmps-rargs.toArray.size) undef,defers:=[]}:=by
  refine⟨⟨by simp;omega,fun t v hv=>?_⟩,trivial⟩;rcases nJ hv with⟨j,rfl,hj⟩|hv
  ·obtain⟨y,g1,g2⟩:=dm hargs hj;refine⟨y,?_,g1⟩;simp only[Nat.zero_add];rw[Array.getElem?_append_left (by simpa using(List.getElem?_eq_some_iff.1 g2).1)];simpa using g2
  ·simp[Tr.get,Tr.getF]at hv
 refine wpIn_mono (h B W0 m m _ w _ (Nat.le_of_eq hr.len) (Ext.refl m) (.inl ⟨rfl,rfl⟩) hA hr) ?_;rintro e a' w' ⟨m',f',st',e1,e2,e3,he,v,s,hlv,hq⟩;have fin:LeavesInM Fence.wide 0 P fn a'.tmps (Ret B W0 m Q) a'.defers .returning w':=by
  unfold lL at hlv;split at hlv
  ·rename_i st2 hk;split at hlv
   ·rename_i l hres;cases hlv;exact nF e1 f'.defs a'.defers st' w' a'.tmps e2.defers e2.tmps e3 _ l hk hres hq
   ·cases hlv
  ·cases hlv
 rcases he with rfl|rfl<;>exact fin
theorem kB(hm:P.follows .mixedOrders=true)(hc:bS P (unq cq))(hk:gG P ck){lk:Nat→Trans→Trans}{g:FuncId}(hl:aQ P st.length lk g){args:List V}{Q:V→St→Prop}(h:fnK P cq ck lk g args st Q):FnSat P g args st Q:=by
 unfold fnK at h;unfold aQ at hl;split at h
 ·rename_i fn hf;rw[hf]at hl;simp only at hl;split at h
  ·rename_i c hb;rw[hb]at hl;simp only at hl;rcases aU h with⟨h1,h⟩|⟨_,h⟩
   ·refine fnSat_of_W hf hb (aw h1) ((dP hm hc hk c 1 hl _ st _ h).mono ?_);intro e f' s' hq;cases e with
    |normal=>obtain⟨⟨v,s⟩,h2,h3⟩:=cU hq;exact⟨.inl rfl,v,s,h2,h3⟩
    |ret=>obtain⟨⟨v,s⟩,h2,h3⟩:=cU hq;exact⟨.inr rfl,v,s,h2,h3⟩
    |_=>exact hq.elim
   ·exact h.elim
  ·exact h.elim
 ·exact h.elim
theorem bf(lim:Nat):∀(c:Code) (p:Nat),eb P ro k (ah lim) p c
 |.seq a b,p=>⟨bf lim a _,bf lim b _⟩
 |.cond _ a b,p=>⟨bf lim a _,bf lim b _⟩
 |.block _ c,p=>bf lim c _
 |.scope c,p=>bf lim c _
 |.loop c,p=>⟨bf lim c _,fun body hb f st Q h=>satW_iterK hb h⟩
 |.skip,_|.label _,_|.ret,_|.exit _,_|.region ..,_|.rangeFunc ..,_|.goto _,_|.refuse _,_=>trivial
theorem aY(lim k:Nat)(g:FuncId):aQ P k (ah lim) g:=by
 unfold aQ;split
 ·split
  ·exact bf lim _ _
  ·trivial
 ·trivial
abbrev TabF:=FuncId→List V→Option (List (Bool×(V×St)))
def l8(P:Program)(F:TabF):Prop:=∀g args l o,F g args=some l→aL l=some o→FnSat P g args [] (Is o)
def noT:TabF:=fun _ _=>none
theorem aJ:l8 P noT:=fun _ _ _ _ h=>by cases h
def addT(F:TabF)(g0:FuncId)(f:List V→Option (List (Bool×(V×St)))):TabF:=fun g args=>bif Nat.beq g g0 then f args else F g args
theorem aR{F:TabF}(hF:l8 P F){g0:FuncId}{f:List V→Option (List (Bool×(V×St)))}(h:∀args l o,f args=some l→aL l=some o→FnSat P g0 args [] (Is o)):l8 P (addT F g0 f):=by
 intro g args l o hv ho;unfold addT at hv;cases hb:Nat.beq g g0 with
 |true=>rw[hb,ae]at hv;rw[aP hb];exact h args l o hv ho
 |false=>rw[hb,ak]at hv;exact hF g args l o hv ho
def addP(F:TabF)(g0:FuncId)(f:List V→Option V):TabF:=addT F g0 fun args=>match f args with
 |some v=>some [(true,(v,[]))]
 |none=>none
theorem bg{F:TabF}(hF:l8 P F){g0:FuncId}{f:List V→Option V}(h:∀args v,f args=some v→FnSat P g0 args [] (Is (v,[]))):l8 P (addP F g0 f):=by
 refine aR hF fun args l o hl ho=>?_;split at hl
 ·rename_i v hv;cases hl;simp only[aL,ae,af]at ho;subst ho;exact h args v hv
 ·cases hl
def tabT(F:TabF):Call:=fun tgt args st=>match tgt,st with
 |.fn g,[]=>match F g args with
  |some l=>aL l
  |none=>none
 |_,_=>none
theorem tabT_ok{F:TabF}(hF:l8 P F):bS P (tabT F):=by
 intro tgt args st r h;unfold tabT at h;split at h
 ·rename_i g;split at h
  ·rename_i l hl;exact hF g args l r hl h
  ·cases h
 ·cases h
mutual
def canV(σ:List Nat):V→Option (List Nat×V)
 |.slice b off len ex c z=>match σ.idxOf? b with
  |some i=>some (σ,.slice i off len ex c z)
  |none=>some (σ++[b],.slice σ.length off len ex c z)
 |.ptr b off=>match σ.idxOf? b with
  |some i=>some (σ,.ptr i off)
  |none=>some (σ++[b],.ptr σ.length off)
 |.agg cs=>match canL σ cs with
  |some (σ',l)=>some (σ',.agg l)
  |none=>none
 |.bool b=>some (σ,.bool b)
 |.int k n=>some (σ,.int k n)
 |.str l=>some (σ,.str l)
 |.nilPtr=>some (σ,.nilPtr)
 |.nilSlice=>some (σ,.nilSlice)
 |.lst x n cs=>some (σ,.lst x n cs)
 |.lptr x n cs o=>some (σ,.lptr x n cs o)
 |.nos b n=>match σ.idxOf? b with
  |some i=>some (σ,.nos i n)
  |none=>some (σ++[b],.nos σ.length n)
 |_=>none
def canL(σ:List Nat):List V→Option (List Nat×List V)
 |[]=>some (σ,[])
 |v::r=>match canV σ v with
  |some (σ',v')=>match canL σ' r with
   |some (σ'',r')=>some (σ'',v'::r')
   |none=>none
  |none=>none
end
mutual
theorem iU{σ τ:List Nat}:∀(v u:V),renV σ v=some u→renV (σ++τ) v=some u
 |.ptr b off,u,h=>by
  simp only[renV]at h ⊢;cases hb:σ[b]? with
  |none=>simp[hb]at h
  |some c=>rw[List.getElem?_append_left (List.getElem?_eq_some_iff.1 hb).1,hb];simpa[hb]using h
 |.slice b off len ex c z,u,h=>by
  simp only[renV]at h ⊢;cases hb:σ[b]? with
  |none=>simp[hb]at h
  |some d=>rw[List.getElem?_append_left (List.getElem?_eq_some_iff.1 hb).1,hb];simpa[hb]using h
 |.map b,u,h=>by
  simp only[renV]at h ⊢;cases hb:σ[b]? with
  |none=>simp[hb]at h
  |some d=>rw[List.getElem?_append_left (List.getElem?_eq_some_iff.1 hb).1,hb];simpa[hb]using h
 |.nos b n,u,h=>by
  simp only[renV]at h ⊢;cases hb:σ[b]? with
  |none=>simp[hb]at h
  |some d=>rw[List.getElem?_append_left (List.getElem?_eq_some_iff.1 hb).1,hb];simpa[hb]using h
 |.yield b,u,h=>by
  simp only[renV]at h ⊢;cases hb:σ[b]? with
  |none=>simp[hb]at h
  |some d=>rw[List.getElem?_append_left (List.getElem?_eq_some_iff.1 hb).1,hb];simpa[hb]using h
 |.func fn fs cs,u,h=>by
  simp only[renV]at h ⊢;cases h1:renL σ fs with
  |none=>simp[h1]at h
  |some a=>
   cases h2:renL σ cs with
   |none=>simp[h1,h2]at h
   |some b=>rw[ei fs a h1,ei cs b h2];simpa[h1,h2]using h
 |.iface t v,u,h=>by
  simp only[renV]at h ⊢;cases h1:renV σ v with
  |none=>simp[h1]at h
  |some a=>rw[iU v a h1];simpa[h1]using h
 |.agg cs,u,h=>by
  simp only[renV]at h ⊢;cases h1:renL σ cs with
  |none=>simp[h1]at h
  |some a=>rw[ei cs a h1];simpa[h1]using h
 |.tuple cs,u,h=>by
  simp only[renV]at h ⊢;cases h1:renL σ cs with
  |none=>simp[h1]at h
  |some a=>rw[ei cs a h1];simpa[h1]using h
 |.bool _,u,h|.int _ _,u,h|.str _,u,h|.nilPtr,u,h|.nilSlice,u,h|.nilFunc,u,h|.nilIface,u,h|.nilMap,u,h|.gp _ _,u,h|.lst ..,u,h|.lptr ..,u,h=>by
  simpa only[renV]using h
theorem ei{σ τ:List Nat}:∀(l u:List V),renL σ l=some u→renL (σ++τ) l=some u
 |[],u,h=>by simpa only[renL]using h
 |v::r,u,h=>by
  simp only[renL]at h ⊢;cases h1:renV σ v with
  |none=>simp[h1]at h
  |some a=>
   cases h2:renL σ r with
   |none=>simp[h1,h2]at h
   |some b=>rw[iU v a h1,ei r b h2];simpa[h1,h2]using h
end
theorem fW{σ:List Nat}{b i:Nat}(h:σ.idxOf? b=some i):σ[i]?=some b:=by
 unfold List.idxOf? at h;rw[List.findIdx?_eq_some_iff_getElem]at h;obtain⟨h1,h2,_⟩:=h;rw[List.getElem?_eq_getElem h1];simpa using h2
mutual
theorem canV_ok:∀(v:V) (σ σ':List Nat) (v':V),canV σ v=some (σ',v')→(∃τ,σ'=σ++τ)∧renV σ' v'=some v
 |.slice b off len ex c z,σ,σ',v',h=>by
  simp only[canV]at h;cases hb:σ.idxOf? b with
  |some i=>simp only[hb,af,Prod.mk.injEq]at h;obtain⟨rfl,rfl⟩:=h;exact⟨⟨[],by simp⟩,by simp only[renV,fW hb]⟩
  |none=>simp only[hb,af,Prod.mk.injEq]at h;obtain⟨rfl,rfl⟩:=h;exact⟨⟨[b],rfl⟩,by simp[renV]⟩
 |.ptr b off,σ,σ',v',h=>by
  simp only[canV]at h;cases hb:σ.idxOf? b with
  |some i=>simp only[hb,af,Prod.mk.injEq]at h;obtain⟨rfl,rfl⟩:=h;exact⟨⟨[],by simp⟩,by simp only[renV,fW hb]⟩
  |none=>simp only[hb,af,Prod.mk.injEq]at h;obtain⟨rfl,rfl⟩:=h;exact⟨⟨[b],rfl⟩,by simp[renV]⟩
 |.nos b n,σ,σ',v',h=>by
  simp only[canV]at h;cases hb:σ.idxOf? b with
  |some i=>simp only[hb,af,Prod.mk.injEq]at h;obtain⟨rfl,rfl⟩:=h;exact⟨⟨[],by simp⟩,by simp only[renV,fW hb]⟩
  |none=>simp only[hb,af,Prod.mk.injEq]at h;obtain⟨rfl,rfl⟩:=h;exact⟨⟨[b],rfl⟩,by simp[renV]⟩
 |.agg cs,σ,σ',v',h=>by
  simp only[canV]at h;cases h1:canL σ cs with
  |none=>simp[h1]at h
  |some p=>
   obtain⟨σ1,l⟩:=p;simp only[h1,af,Prod.mk.injEq]at h;obtain⟨rfl,rfl⟩:=h;obtain⟨h2,h3⟩:=ux cs σ σ1 l h1;exact⟨h2,by simp only[renV,h3]⟩
 |.bool _,σ,σ',v',h|.int _ _,σ,σ',v',h|.str _,σ,σ',v',h|.nilPtr,σ,σ',v',h|.nilSlice,σ,σ',v',h|.lst ..,σ,σ',v',h|.lptr ..,σ,σ',v',h=>by
  simp only[canV,af,Prod.mk.injEq]at h;obtain⟨rfl,rfl⟩:=h;exact⟨⟨[],by simp⟩,rfl⟩
 |.nilFunc,σ,σ',v',h|.nilIface,σ,σ',v',h|.nilMap,σ,σ',v',h|.gp _ _,σ,σ',v',h|.yield _,σ,σ',v',h|.map _,σ,σ',v',h|.func ..,σ,σ',v',h|.iface ..,σ,σ',v',h|.tuple _,σ,σ',v',h=>by
  simp[canV]at h
theorem ux:∀(l:List V) (σ σ':List Nat) (l':List V),canL σ l=some (σ',l')→(∃τ,σ'=σ++τ)∧renL σ' l'=some l
 |[],σ,σ',l',h=>by simp only[canL,af,Prod.mk.injEq]at h;obtain⟨rfl,rfl⟩:=h;exact⟨⟨[],by simp⟩,rfl⟩
 |v::r,σ,σ',l',h=>by
  simp only[canL]at h;cases h1:canV σ v with
  |none=>simp[h1]at h
  |some p=>
   obtain⟨σ1,v1⟩:=p;simp only[h1]at h;cases h2:canL σ1 r with
   |none=>simp[h2]at h
   |some q=>
    obtain⟨σ2,r1⟩:=q;simp only[h2,af,Prod.mk.injEq]at h;obtain⟨rfl,rfl⟩:=h;obtain⟨⟨τ1,rfl⟩,k1⟩:=canV_ok v σ σ1 v1 h1;obtain⟨⟨τ2,rfl⟩,k2⟩:=ux r _ σ2 r1 h2;exact⟨⟨τ1++τ2,by simp⟩,by simp only[renL,iU v1 v k1,k2]⟩
end
def nh(st:St):List Nat→Option St
 |[]=>some []
 |c::r=>match st[c]?,nh st r with
  |some b,some s=>some (b.toRo::s)
  |_,_=>none
theorem pv{st:St}:∀{σ:List Nat} {s:St},nh st σ=some s→σ.length=s.length∧∀(i:Nat) (b:Blk),s[i]?=some b→∃c b',σ[i]?=some c∧st[c]?=some b'∧b=b'.toRo
 |[],s,h=>by simp only[nh,af]at h;subst h;exact⟨rfl,fun i b hb=>by simp at hb⟩
 |c::r,s,h=>by
  simp only[nh]at h;cases h1:st[c]? with
  |none=>simp[h1]at h
  |some b=>
   cases h2:nh st r with
   |none=>simp[h1,h2]at h
   |some q=>
    simp only[h1,h2,af]at h;subst h;obtain⟨k1,k2⟩:=pv h2;refine⟨by simp[k1],fun i x hx=>?_⟩;cases i with
    |zero=>simp only[ce,af]at hx;subst hx;exact⟨c,b,rfl,h1,rfl⟩
    |succ i=>simp only[List.getElem?_cons_succ]at hx ⊢;exact k2 i x hx
structure LookF where
 look:FuncId→List V→St→Option (List (Bool×(V×St)))
 mem:FuncId→List V→St→Option (List (Bool×(V×St)))
 memB:FuncId→Bool
structure LookOk (P:Program) (L:LookF):Prop where
 look:∀g args s l v n,L.look g args s=some l→aL l=some (v,n)→(∀b∈s,aM b.cs=true)∧FnSat P g args s (fun u st=>Fits 0 [v] n [some u] st)
 mem:∀g args s l o,L.mem g args s=some l→aL l=some o→FnSat P g args s (Is o)
def noL:LookF:=⟨fun _ _ _=>none,fun _ _ _=>none,fun _=>false⟩
theorem aK:LookOk P noL:=⟨(by intro g args s l v n h;cases h),(by intro g args s l o h;cases h)⟩
mutual
theorem jc{σ:List Nat}:∀(v:V),v.flat=true→renV σ v=some v
 |.bool _,_|.int _ _,_|.str _,_|.nilPtr,_|.nilSlice,_|.nilFunc,_|.nilIface,_|.nilMap,_|.gp _ _,_|.lst ..,_|.lptr ..,_=>rfl
 |.ptr _ _,h=>by cases h
 |.slice ..,h=>by cases h
 |.yield _,h=>by cases h
 |.map _,h=>by cases h
 |.nos ..,h=>by cases h
 |.func fn fs cs,h=>by
  simp only[V.flat,ad]at h;simp only[renV,aC fs h.1,aC cs h.2]
 |.iface t v,h=>by
  simp only[V.flat]at h;simp only[renV,jc v h]
 |.agg cs,h=>by
  simp only[V.flat]at h;simp only[renV,aC cs h]
 |.tuple cs,h=>by
  simp only[V.flat]at h;simp only[renV,aC cs h]
theorem aC{σ:List Nat}:∀(l:List V),aM l=true→renL σ l=some l
 |[],_=>rfl
 |v::r,h=>by
  simp only[aM,ad]at h;simp only[renL,jc v h.1,aC r h.2]
end
def addM(L:LookF)(g0:FuncId)(f:List V→St→Option (List (Bool×(V×St)))):LookF:={L with look:=fun g args s=>bif Nat.beq g g0 then f args s else L.look g args s}
theorem o7{L:LookF}(hL:LookOk P L){g0:FuncId}{f:List V→St→Option (List (Bool×(V×St)))}(h:∀args s l v n,f args s=some l→aL l=some (v,n)→(∀b∈s,aM b.cs=true)∧FnSat P g0 args s (fun u st=>Fits 0 [v] n [some u] st)):LookOk P (addM L g0 f):=by
 refine⟨?_,hL.mem⟩;intro g args s l v n hv ho;unfold addM at hv;simp only at hv;cases hb:Nat.beq g g0 with
 |true=>rw[hb,ae]at hv;rw[aP hb];exact h args s l v n hv ho
 |false=>rw[hb,ak]at hv;exact hL.look g args s l v n hv ho
def addS(L:LookF)(g0:FuncId)(f:List V→St→Option (List (Bool×(V×St)))):LookF:={L with mem:=fun g args s=>bif Nat.beq g g0 then f args s else L.mem g args s,memB:=fun g=>Nat.beq g g0||L.memB g}
theorem bP{L:LookF}(hL:LookOk P L){g0:FuncId}{f:List V→St→Option (List (Bool×(V×St)))}(h:∀args s l o,f args s=some l→aL l=some o→FnSat P g0 args s (Is o)):LookOk P (addS L g0 f):=by
 refine⟨hL.look,?_⟩;intro g args s l o hv ho;unfold addS at hv;simp only at hv;cases hb:Nat.beq g g0 with
 |true=>rw[hb,ae]at hv;rw[aP hb];exact h args s l o hv ho
 |false=>rw[hb,ak]at hv;exact hL.mem g args s l o hv ho
def addL(L:LookF)(g0:FuncId)(f:List V→St→Option (Bool×V)):LookF:=addM L g0 fun args s=>match f args s with
 |some (b,v)=>some [(b,(v,[]))]
 |none=>none
theorem addL_ok{L:LookF}(hL:LookOk P L){g0:FuncId}{f:List V→St→Option (Bool×V)}(h:∀args s v,f args s=some (true,v)→v.flat=true∧(∀b∈s,aM b.cs=true)∧FnSat P g0 args s (fun u _=>u=v)):LookOk P (addL L g0 f):=by
 refine o7 hL fun args s l v n hv ho=>?_;split at hv
 ·rename_i b u hf;cases hv;cases b with
  |false=>simp[aL]at ho
  |true=>
  simp only[aL,ae,af,Prod.mk.injEq]at ho;obtain⟨rfl,rfl⟩:=ho;obtain⟨h1,h2,h3⟩:=h args s _ hf;refine⟨h2,h3.mono fun w st hu=>?_⟩;subst hu;have hr:renL [] [w]=some [w]:=aC [w] (by simp[aM,h1]);exact⟨[],[w],rfl,hr,FitsM.of trivial,by simp,fun i hi=>by omega⟩
 ·cases hv
def pY(L:LookF)(g:FuncId)(args:List V)(st:St):Option (List (Bool×(V×St))):=match canL [] args with
 |some (σ,args')=>match nh st σ with
  |some s=>L.look g args' s
  |none=>none
 |none=>none
theorem BlkOk.flatRo{B:Nat}{m m':List MB}{w:World}{e:MB}{b:Blk}(hr:b.rw=false)(hf:aM b.cs=true)(h:BlkOk B m w e b):BlkOk B m' w e b:=by
 cases b with
 |dead=>trivial
 |ro own cs=>
  obtain⟨g1,arr,t,fz,g2,g3⟩:=h;refine⟨g1,arr,t,fz,g2,fun i v hv=>?_⟩;obtain⟨x,k1,k2⟩:=g3 i v hv;refine⟨x,dk v x ?_ k1,k2⟩;have:∀(l:List V) (i:Nat) (v:V),aM l=true→l[i]?=some v→v.flat=true:=by
   intro l
   induction l with
   |nil=>intro i v _ h;simp at h
   |cons a r ih=>
    intro i v hl h;simp only[aM,ad]at hl;cases i with
    |zero=>simp only[ce,af]at h;subst h;exact hl.1
    |succ i=>exact ih i v hl.2 (by simpa using h)
  exact this cs i v hf hv
 |row=>cases hr
 |defd=>cases hr
 |mpu=>cases hr
 |mp cs=>cases hr
 |sit s p=>cases hr
 |loop=>cases hr
theorem nD{L:LookF}(hL:LookOk P L){g:FuncId}{args:List V}{l:List (Bool×(V×St))}{v:V}{n:St}(h:pY L g args st=some l)(ho:aL l=some (v,n)):FnSat P g args st (Is (bif v.flat then(v,st)else(v.shift st.length,st++n.map (Blk.shift st.length)))):=by
 unfold pY at h;split at h
 ·rename_i σ args' hc;split at h
  ·rename_i s hs;obtain⟨h2,h3⟩:=hL.look g args' s l v n h ho;obtain⟨_,h4⟩:=ux args [] σ args' hc;obtain⟨h5,h6⟩:=pv hs;intro B W0 m w rargs hargs hr;have hrel:Rel w.heap.size w (renM σ m) s w:=by
    refine Rel.ofRo hr.gok (by simp[renM,h5]) fun i b e hb he=>?_;obtain⟨c,b',k1,k2,rfl⟩:=h6 i b hb;obtain⟨e',k3,k4⟩:=hr.at k2;unfold renM at he;rw[List.getElem?_map,k1]at he;simp only[Option.map_some,k3,Option.getD_some,af]at he;subst he;exact⟨(k4.toRo w.heap.size).flatRo (mc b') (h2 _ (List.mem_of_getElem? hb)),mc b'⟩
   refine(h3 w.heap.size w (renM σ m) w rargs (gw args' args rargs h4 hargs) hrel).mono ?_;rintro e w' ⟨u,x,m',s',rfl,g1,g2,g3,τ,us,k1,k2,k3,k4,k5⟩;simp only[renL]at k2;cases hv:renV τ v with
   |none=>simp[hv]at k2
   |some u'=>
    simp only[hv,af]at k2;subst k2;simp only[List.map_cons,List.map_nil,List.cons.injEq,af,and_true]at k1;subst k1;have e2:=gu v u x hv g2;have e3:=g3.ren k4 k3;cases hfl:v.flat with
    |true=>exact⟨v,x,m,st,rfl,Ext.refl m,dk v x hfl e2,hr.later e3.below,rfl⟩
    |false=>
     refine⟨v.shift st.length,x,m++renM τ m',st++n.map (Blk.shift st.length),rfl,fun b e hb=>?_,by rw[←hr.len];exact fo v x e2,hr.join e3,rfl⟩;rw[List.getElem?_append_left (List.getElem?_eq_some_iff.1 hb).1];exact hb
  ·cases h
 ·cases h
abbrev Lks:=FuncId→Nat→Nat→Trans→Trans
def LksOk(P:Program)(lks:Lks):Prop:=∀g k,aQ P k (lks g k) g
def aT(lim:Nat):Lks:=fun _ _=>ah lim
theorem au(lim:Nat):LksOk P (aT lim):=fun g k=>aY lim k g
structure Tab where
 F:TabF
 L:LookF
 lks:Lks
structure TabOk3 (P:Program) (T:Tab):Prop where
 F:l8 P T.F
 L:LookOk P T.L
 lks:LksOk P T.lks
def cqT(P:Program)(T:Tab)(lim n:Nat):CallQ:=fun t a s=>match t with
 |.fn g=>match(match s with|[]=>T.F g a|_=>none)with
  |some l=>some (true,l)
  |none=>match pY T.L g a s with
   |some l=>some (true,l.map fun o=>(o.1,bif o.2.1.flat then(o.2.1,s)else(o.2.1.shift s.length,s++o.2.2.map (Blk.shift s.length))))
   |none=>bif T.L.memB g then(match T.L.mem g a s with
    |some l=>some (true,l)
    |none=>none)else liftQ (E P (tabT T.F) lim n) (.fn g) a s
 |.yld l=>liftQ (E P (tabT T.F) lim n) (.yld l) a s
theorem rN{f:V×St→V×St}:∀{l:List (Bool×(V×St))} {o:V×St},aL (l.map fun x=>(x.1,f x.2))=some o→∃o',aL l=some o'∧f o'=o
 |[],o,h=>by cases h
 |(b,x)::r,o,h=>by
  cases b with
  |true=>simp only[List.map_cons,aL,ae,af]at h;exact⟨x,rfl,h⟩
  |false=>simp only[List.map_cons,aL,ak]at h;exact rN (l:=r) h
theorem lV(hm:P.follows .mixedOrders=true){T:Tab}(hT:TabOk3 P T)(lim n:Nat):bS P (unq (cqT P T lim n)):=by
 have hE:bS P (unq (liftQ (E P (tabT T.F) lim n))):=by rw[unq_lift];exact E_ok hm (tabT_ok hT.F) lim n
 intro t a s r h;unfold unq at h;split at h
 ·rename_i b l hq;unfold cqT at hq;split at hq
  ·rename_i g;split at hq
   ·rename_i l' hl;cases hq;cases s with
    |nil=>exact hT.F g a l r hl h
    |cons _ _=>cases hl
   ·split at hq
    ·rename_i l' hl;cases hq;obtain⟨⟨v,n'⟩,ho,rfl⟩:=rN (f:=fun o=>bif o.1.flat then(o.1,s)else(o.1.shift s.length,s++o.2.map (Blk.shift s.length))) h;exact nD hT.L hl ho
    ·cases hb:T.L.memB g with
     |true=>
      rw[hb,ae]at hq;split at hq
      ·rename_i l' hl;cases hq;exact hT.L.mem g a s l r hl h
      ·cases hq
     |false=>
      rw[hb,ak]at hq;refine hE (.fn g) a s r ?_;unfold unq;rw[hq];exact h
  ·rename_i l0;refine hE (.yld l0) a s r ?_;unfold unq;rw[hq];exact h
 ·cases h
section
variable {T:Tab}
def KG(P:Program)(T:Tab)(lim:Nat):Nat→CallK
 |0=>fun _ _ _ _=>False
 |n+1=>fun tgt args st Q=>match tgt with
  |.fn g=>match T.F g args,st with
   |some l,[]=>kW Q l
   |_,st=>match pY T.L g args st with
    |some l=>kW (fun v n=>bif v.flat then Q v st else Q (v.shift st.length) (st++n.map (Blk.shift st.length))) l
    |none=>match T.L.mem g args st with
     |some l=>kW Q l
     |none=>fnK P (cqT P T lim n) (KG P T lim n) (T.lks g st.length) g args st Q
  |.yld l=>yldK P (cqT P T lim n) (KG P T lim n) (ah lim) l args st Q
theorem oL(hm:P.follows .mixedOrders=true)(hT:TabOk3 P T):∀n,gG P (KG P T lim n)
 |0=>fun _ _ _ _ h=>h.elim
 |n+1=>fun tgt args st Q h=>by
  have hE:=lV hm hT lim n;cases tgt with
  |fn g=>
   simp only[KG]at h;split at h
   ·rename_i l hl;obtain⟨o,h1,h2⟩:=fJ h;exact(hT.F g args l o hl h1).mono fun u s hq=>by cases hq;exact h2
   ·split at h
    ·rename_i l hv;obtain⟨⟨v,n⟩,ho,hq⟩:=fJ h;refine(nD hT.L hv ho).mono fun u s hu=>?_;cases hfl:v.flat with
     |true=>rw[hfl,ae]at hu hq;cases hu;exact hq
     |false=>rw[hfl,ak]at hu hq;cases hu;exact hq
    ·split at h
     ·rename_i l hl;obtain⟨o,h1,h2⟩:=fJ h;exact(hT.L.mem g args _ l o hl h1).mono fun u s hq=>by cases hq;exact h2
     ·exact kB hm hE (oL hm hT n) (hT.lks g _) h
  |yld l=>
   simp only[KG]at h;exact yldK_ok hm hE (oL hm hT n) (fun c=>fu lim c 1) h
def runM(P:Program)(T:Tab)(lim n:Nat)(g:FuncId)(args:List V)(R:V→St→Prop):Prop:=
 fnK P (cqT P T lim n) (KG P T lim n) (T.lks g 0) g args [] R
def runW(P:Program)(T:Tab)(lim n:Nat)(g:FuncId)(args:List V)(R:V→Prop):Prop:=
 runM P T lim n g args (fun v _=>R v)
theorem dX(hm:P.follows .mixedOrders=true)(hT:TabOk3 P T){g:FuncId}{args:List V}{R:V→St→Prop}(h:runM P T lim n g args R):FnSat P g args [] R:=
 kB (st:=[]) hm (lV hm hT lim n) (oL hm hT n) (hT.lks g 0) h
theorem FnSat.fits{g:FuncId}{args:List V}{v:V}{s:St}(h:FnSat P g args [] (fun u st=>Fits 0 [v] s [some u] st)):FnSat P g args [] (Is (v,s)):=by
 intro B W0 m w rargs hargs hr;refine(h B W0 m w rargs hargs hr).mono ?_;rintro e w' ⟨u,x,m',st',rfl,e1,e2,e3,σ,us,k1,k2,k3,k4,k5⟩;simp only[renL]at k2;cases h1:renV σ v with
 |none=>simp[h1]at k2
 |some u'=>
  simp only[h1,af]at k2;subst k2;simp only[List.map_cons,List.map_nil,List.cons.injEq,af,and_true]at k1;subst k1;have hm0:m=[]:=List.eq_nil_of_length_eq_zero hr.len;subst hm0;exact⟨v,x,renM σ m',s,rfl,fun b e hb=>by simp at hb,gu v u x h1 e2,e3.ren k4 k3,rfl⟩
theorem runW_ok(hm:P.follows .mixedOrders=true)(hT:TabOk3 P T){g:FuncId}{args:List V}{R:V→Prop}(h:runW P T lim n g args R):FnSat P g args [] (fun v _=>R v):=
 kB (st:=[]) hm (lV hm hT lim n) (oL hm hT n) (hT.lks g 0) h
theorem ax(hm:P.follows .mixedOrders=true)(hT:TabOk3 P T){g:FuncId}{args:List V}{v:V}(ha:aM args=true)(hv:v.flat=true)(h:runW P T lim n g args (fun u=>u=v)):FnSat P g args [] (Is (v,[])):=by
 refine FnSat.flatK ha ((runW_ok hm hT h).mono ?_);rintro u s rfl;rw[hv];rfl
theorem cA{p0:Nat}{T:Trans}{lk:Nat→Trans→Trans}:∀(c:Code) (p:Nat),eb P ro k lk p c→(∀c'∈bR p0 p c,∀f st Q,T f st Q→CodeSatW P ro k (.loop c') f st Q)→eb P ro k (ba p0 T lk) p c
 |.seq a b,p,h,hT=>⟨cA a _ h.1 fun c' hc=>hT c' (by simp only[bR,List.mem_append];exact .inl hc),cA b _ h.2 fun c' hc=>hT c' (by simp only[bR,List.mem_append];exact .inr hc)⟩
 |.cond _ a b,p,h,hT=>⟨cA a _ h.1 fun c' hc=>hT c' (by simp only[bR,List.mem_append];exact .inl hc),cA b _ h.2 fun c' hc=>hT c' (by simp only[bR,List.mem_append];exact .inr hc)⟩
 |.block _ c,p,h,hT=>cA c _ h fun c' hc=>hT c' (by simp only[bR];exact hc)
 |.scope c,p,h,hT=>cA c _ h fun c' hc=>hT c' (by simp only[bR];exact hc)
 |.loop c,p,h,hT=>by
  refine⟨cA c _ h.1 fun c' hc=>hT c' (by simp only[bR,List.mem_append];exact .inr hc),fun body hb f st Q hq=>?_⟩;unfold ba at hq;cases hp:Nat.beq p p0 with
  |true=>
   rw[hp,ae]at hq;exact hT c (by simp[bR,aP hp]) f st Q hq
  |false=>
   rw[hp,ak]at hq;exact h.2 body hb f st Q hq
 |.skip,_,_,_|.label _,_,_,_|.ret,_,_,_|.exit _,_,_,_|.region ..,_,_,_|.rangeFunc ..,_,_,_|.goto _,_,_,_|.refuse _,_,_,_=>trivial
theorem bB{g:FuncId}{p0:Nat}{T:Trans}{lk:Nat→Trans→Trans}(hl:aQ P k lk g)(hp:bR p0 1 (iq P g)=[cO P g p0])(hT:∀f st Q,T f st Q→CodeSatW P none k (.loop (cO P g p0)) f st Q):aQ P k (ba p0 T lk) g:=by
 unfold aQ at hl ⊢;unfold iq at hp;split at hl
 ·rename_i fn hf;simp only[hf]at hp ⊢;split at hl
  ·rename_i c hb;simp only[hb,Option.getD_some]at hp ⊢;refine cA c 1 hl fun c' hc=>?_;rw[hp]at hc;rw[List.mem_singleton.1 hc];exact hT
  ·trivial
 ·trivial
def gH(p0:Nat)(c:Fr→Bool)(T:Trans)(lk:Nat→Trans→Trans):Nat→Trans→Trans:=fun p body f st Q=>bif Nat.beq p p0&&c f then T f st Q else lk p body f st Q
theorem cZ{p0:Nat}{ct:Fr→Bool}{T:Trans}{lk:Nat→Trans→Trans}:∀(c:Code) (p:Nat),eb P ro k lk p c→(∀c'∈bR p0 p c,∀f st Q,T f st Q→CodeSatW P ro k (.loop c') f st Q)→eb P ro k (gH p0 ct T lk) p c
 |.seq a b,p,h,hT=>⟨cZ a _ h.1 fun c' hc=>hT c' (by simp only[bR,List.mem_append];exact .inl hc),cZ b _ h.2 fun c' hc=>hT c' (by simp only[bR,List.mem_append];exact .inr hc)⟩
 |.cond _ a b,p,h,hT=>⟨cZ a _ h.1 fun c' hc=>hT c' (by simp only[bR,List.mem_append];exact .inl hc),cZ b _ h.2 fun c' hc=>hT c' (by simp only[bR,List.mem_append];exact .inr hc)⟩
 |.block _ c,p,h,hT=>cZ c _ h fun c' hc=>hT c' (by simp only[bR];exact hc)
 |.scope c,p,h,hT=>cZ c _ h fun c' hc=>hT c' (by simp only[bR];exact hc)
 |.loop c,p,h,hT=>by
  refine⟨cZ c _ h.1 fun c' hc=>hT c' (by simp only[bR,List.mem_append];exact .inr hc),fun body hb f st Q hq=>?_⟩;unfold gH at hq;cases hp:(Nat.beq p p0&&ct f)with
  |true=>
   rw[hp,ae]at hq;rw[ad]at hp;exact hT c (by simp[bR,aP hp.1]) f st Q hq
  |false=>
   rw[hp,ak]at hq;exact h.2 body hb f st Q hq
 |.skip,_,_,_|.label _,_,_,_|.ret,_,_,_|.exit _,_,_,_|.region ..,_,_,_|.rangeFunc ..,_,_,_|.goto _,_,_,_|.refuse _,_,_,_=>trivial
theorem qt{g:FuncId}{p0:Nat}{ct:Fr→Bool}{T:Trans}{lk:Nat→Trans→Trans}(hl:aQ P k lk g)(hp:bR p0 1 (iq P g)=[cO P g p0])(hT:∀f st Q,T f st Q→CodeSatW P none k (.loop (cO P g p0)) f st Q):aQ P k (gH p0 ct T lk) g:=by
 unfold aQ at hl ⊢;unfold iq at hp;split at hl
 ·rename_i fn hf;simp only[hf]at hp ⊢;split at hl
  ·rename_i c hb;simp only[hb,Option.getD_some]at hp ⊢;refine cZ c 1 hl fun c' hc=>?_;rw[hp]at hc;rw[List.mem_singleton.1 hc];exact hT
  ·trivial
 ·trivial
def isSl(t:Nat)(f:Fr):Bool:=match f.T.get t with
 |some (.slice ..)=>true
 |_=>false
def cI(lks:Lks)(g0 k0:Nat)(lk:Nat→Trans→Trans):Lks:=fun g k=>bif Nat.beq g g0&&Nat.beq k k0 then lk else lks g k
theorem bq{lks:Lks}(hl:LksOk P lks){g0 k0:Nat}{lk:Nat→Trans→Trans}(h:aQ P k0 lk g0):LksOk P (cI lks g0 k0 lk):=by
 intro g k;unfold cI;cases hb:(Nat.beq g g0&&Nat.beq k k0)with
 |true=>
  rw[ad]at hb;rw[ae,aP hb.1,aP hb.2];exact h
 |false=>rw[ak];exact hl g k
def al(P:Program)(T:Tab)(lim n:Nat)(lk:Nat→Trans→Trans)(g:FuncId)(p0:Nat)(ts:List Nat)(vs:List V)(st:St)(R:Exit→List (Option V)→St→Prop):Prop:=
 dA P (cqT P T lim n) (KG P T lim n) lk none (2*p0) (cO P g p0) (frOf (szOf P g) (ts.zip vs)) st (fun e f s=>bif okF (szOf P g) f then R e (ts.map f.T.get) s else False)
def bK{α:Type}(k sz:Nat)(ts:List Nat)(dec:List (Option V)→St→Option α)(pre:α→Bool)(vs:α→List V)(J:α→St)(outs:Asks α):Trans:=fun f st Q=>
 bif okF sz f then optK (dec (ts.map f.T.get) st) (fun x=>Fits k (vs x) (J x) (ts.map f.T.get) st∧must (pre x) (outs x (fun e l s=>Q e (frOf sz (ts.zip l)) s)))else False
theorem bc{α:Type}(hm:P.follows .mixedOrders=true)(hT:TabOk3 P T){lk:Nat→Trans→Trans}{g:FuncId}{p0:Nat}(hlk:eb P none k lk (2*p0) (cO P g p0)){ts:List Nat}{dec:List (Option V)→St→Option α}{pre:α→Bool}
  {vs:α→List V}{J:α→St}(μ:α→Nat){outs:Asks α}
  (round:∀x,pre x=true→al P T lim n lk g p0 ts (vs x) (J x) (aD k pre vs J μ outs x))(h:bK k (szOf P g) ts dec pre vs J outs f st Q):CodeSatW P none k (.loop (cO P g p0)) f st Q:=by
 unfold bK at h;rcases aU h with⟨h1,h⟩|⟨_,h⟩
 ·obtain⟨x,h2,hfit,h3⟩:=cU h;obtain⟨hp,h4⟩:=aX h3;refine loopA_law vs J μ outs (fun x hx=>(dP hm (lV hm hT lim n) (oL hm hT n) _ _ hlk _ _ _ (round x hx)).mono ?_) x hp h1 hfit h4;intro e f s hq;rcases aU hq with⟨ho,hq⟩|⟨_,hq⟩
  ·exact⟨ho,hq⟩
  ·exact hq.elim
 ·exact h.elim
end
end
def tabL(T:Tab):Call:=fun t args st=>match tabT T.F t args st with
 |some r=>some r
 |none=>match t with
  |.fn g=>match pY T.L g args st with
   |some l=>match aL l with
    |some (v,n)=>some (bif v.flat then(v,st)else(v.shift st.length,st++n.map (Blk.shift st.length)))
    |none=>none
   |none=>none
  |_=>none
theorem mf{P:Program}{T:Tab}(hT:TabOk3 P T):bS P (tabL T):=by
 intro t args st r h;unfold tabL at h;split at h
 ·rename_i r' h1;cases h;exact tabT_ok hT.F t args st _ h1
 ·split at h
  ·rename_i g;split at h
   ·rename_i l hl;split at h
    ·rename_i v n ho;cases h;exact nD hT.L hl ho
    ·cases h
   ·cases h
  ·cases h
end Go.Vm
namespace Go.Vm
variable [G:Glob] [Φ:Frz]
open Go.RowKit
mutual
def eqVV:V→V→Bool
 |.bool a,.bool b=>a==b
 |.int k n,.int k' m=>decide (k=k')&&eqI n m
 |.str l,.str m=>eqS l m
 |.nilPtr,.nilPtr=>true
 |.ptr b o,.ptr c p=>Nat.beq b c&&Nat.beq o p
 |.nilSlice,.nilSlice=>true
 |.slice a b c d e f,.slice a' b' c' d' e' f'=>Nat.beq a a'&&(Nat.beq b b'&&(Nat.beq c c'&&(d==d'&&(Nat.beq e e'&&Nat.beq f f'))))
 |.nilFunc,.nilFunc=>true
 |.nilIface,.nilIface=>true
 |.iface t v,.iface u w=>Nat.beq t u&&eqVV v w
 |.nilMap,.nilMap=>true
 |.map b,.map c=>Nat.beq b c
 |.agg a,.agg b=>eqLL a b
 |.tuple a,.tuple b=>eqLL a b
 |.gp a b,.gp c d=>Nat.beq a c&&Nat.beq b d
 |.func (.func f) a b,.func (.func g) c d=>Nat.beq f g&&(eqLL a c&&eqLL b d)
 |_,_=>false
def eqLL:List V→List V→Bool
 |[],[]=>true
 |a::r,b::s=>eqVV a b&&eqLL r s
 |_,_=>false
end
mutual
theorem ul(a b:V)(h:eqVV a b=true):a=b:=by
 unfold eqVV at h;split at h
 ·rw[eq_of_beq h]
 ·rw[ad]at h;rw[aN h.1,eqI_ok h.2]
 ·rw[un h]
 ·rfl
 ·rw[ad]at h;rw[aP h.1,aP h.2]
 ·rfl
 ·simp only[ad]at h;rw[aP h.1,aP h.2.1,aP h.2.2.1,eq_of_beq h.2.2.2.1,aP h.2.2.2.2.1,aP h.2.2.2.2.2]
 ·rfl
 ·rfl
 ·rename_i t v u w;rw[ad]at h;rw[aP h.1,ul _ _ h.2]
 ·rfl
 ·rw[aP h]
 ·rename_i a b;rw[gE _ _ h]
 ·rename_i a b;rw[gE _ _ h]
 ·rw[ad]at h;rw[aP h.1,aP h.2]
 ·rename_i f a b g c d;simp only[ad]at h;rw[aP h.1,gE _ _ h.2.1,gE _ _ h.2.2]
 ·cases h
 termination_by SizeOf.sizeOf a
theorem gE(a b:List V)(h:eqLL a b=true):a=b:=by
 unfold eqLL at h;split at h
 ·rfl
 ·rename_i a r b s;rw[ad]at h;rw[ul _ _ h.1,gE _ _ h.2]
 ·cases h
 termination_by SizeOf.sizeOf a
end
def eqBlk:Blk→Blk→Bool
 |.dead,.dead=>true
 |.defd,.defd=>true
 |.mp cs,.mp ds=>eqLL cs ds
 |.sit s p,.sit t q=>eqS s t&&Nat.beq p q
 |.ro o cs,.ro p ds=>o==p&&eqLL cs ds
 |.row cs t sz,.row ds u sw=>Nat.beq t u&&(Nat.beq sz sw&&eqLL cs ds)
 |_,_=>false
theorem eqBlk_ok{a b:Blk}(h:eqBlk a b=true):a=b:=by
 unfold eqBlk at h;split at h
 ·rfl
 ·rfl
 ·rw[gE _ _ h]
 ·rw[ad]at h;rw[un h.1,aP h.2]
 ·rw[ad]at h;rw[eq_of_beq h.1,gE _ _ h.2]
 ·simp only[ad]at h;rw[aP h.1,aP h.2.1,gE _ _ h.2.2]
 ·cases h
def eqSt:St→St→Bool
 |[],[]=>true
 |a::r,b::s=>eqBlk a b&&eqSt r s
 |_,_=>false
theorem um:∀{a b:St},eqSt a b=true→a=b
 |[],[],_=>rfl
 |[],_::_,h=>by cases h
 |_::_,[],h=>by cases h
 |a::r,b::s,h=>by
  simp only[eqSt,ad]at h;rw[eqBlk_ok h.1,um h.2]
structure Ent where
 g:Nat
 args:List V
 st:St
 v:V
 s:St
def EntOk(P:Program)(e:Ent):Prop:=FnSat P e.g e.args e.st (Is (e.v,e.s))
theorem all_nil{P:Program}:∀e∈([]:List Ent),EntOk P e:=fun e h=>by cases h
theorem all_cons{P:Program}{e:Ent}{es:List Ent}(h:EntOk P e)(hs:∀e∈es,EntOk P e):∀e'∈e::es,EntOk P e':=fun e' he=>by
 rcases List.mem_cons.1 he with rfl|he
 ·exact h
 ·exact hs e' he
structure EntL where
 g:Nat
 args:List V
 st:St
 v:V
def isV(o:Option (V×St))(v:V):Bool:=match o with
 |some (u,_)=>eqVV u v
 |none=>false
end Go.Vm
namespace Go.Vm
variable [G:Glob] [Φ:Frz]
open Go.RowKit
mutual
def cnV(σ:List Nat):V→Option (List Nat×V)
 |.slice b off len ex c z=>match σ.idxOf? b with
  |some i=>some (σ,.slice i off len ex c z)
  |none=>some (σ++[b],.slice σ.length off len ex c z)
 |.ptr b off=>match σ.idxOf? b with
  |some i=>some (σ,.ptr i off)
  |none=>some (σ++[b],.ptr σ.length off)
 |.agg cs=>match cnL σ cs with
  |some (σ',l)=>some (σ',.agg l)
  |none=>none
 |.tuple cs=>match cnL σ cs with
  |some (σ',l)=>some (σ',.tuple l)
  |none=>none
 |.iface t v=>match cnV σ v with
  |some (σ',u)=>some (σ',.iface t u)
  |none=>none
 |.func fn fs cs=>match cnL σ fs with
  |some (σ1,l)=>match cnL σ1 cs with
   |some (σ2,k)=>some (σ2,.func fn l k)
   |none=>none
  |none=>none
 |.yield _=>none
 |.map b=>match σ.idxOf? b with
  |some i=>some (σ,.map i)
  |none=>some (σ++[b],.map σ.length)
 |.nos b n=>match σ.idxOf? b with
  |some i=>some (σ,.nos i n)
  |none=>some (σ++[b],.nos σ.length n)
 |v=>some (σ,v)
def cnL(σ:List Nat):List V→Option (List Nat×List V)
 |[]=>some (σ,[])
 |v::r=>match cnV σ v with
  |some (σ',v')=>match cnL σ' r with
   |some (σ'',r')=>some (σ'',v'::r')
   |none=>none
  |none=>none
end
theorem jm{σ:List Nat}{b:Nat}(h:σ.idxOf? b=none):b∉σ:=by
 unfold List.idxOf? at h;rw[List.findIdx?_eq_none_iff]at h;intro hb;have:=h b hb;simp at this
theorem jk{σ:List Nat}{b:Nat}(hn:σ.Nodup)(hb:b∉σ):(σ++[b]).Nodup:=by
 rw[List.nodup_append];exact⟨hn,by simp,fun a ha c hc=>by simp at hc;subst hc;rintro rfl;exact hb ha⟩
def CnOk(σ σ':List Nat):Prop:=(∃τ,σ'=σ++τ)∧(σ.Nodup→σ'.Nodup)
theorem CnOk.refl(σ:List Nat):CnOk σ σ:=⟨⟨[],by simp⟩,fun h=>h⟩
theorem CnOk.trans{a b c:List Nat}(h:CnOk a b)(k:CnOk b c):CnOk a c:=by
 obtain⟨⟨t,rfl⟩,h2⟩:=h;obtain⟨⟨u,rfl⟩,k2⟩:=k;exact⟨⟨t++u,by simp⟩,fun h=>k2 (h2 h)⟩
mutual
theorem cnV_ok:∀(v:V) (σ σ':List Nat) (v':V),cnV σ v=some (σ',v')→CnOk σ σ'∧renV σ' v'=some v
 |.slice b off len ex c z,σ,σ',v',h=>by
  simp only[cnV]at h;cases hb:σ.idxOf? b with
  |some i=>simp only[hb,af,Prod.mk.injEq]at h;obtain⟨rfl,rfl⟩:=h;exact⟨CnOk.refl _,by simp only[renV,fW hb]⟩
  |none=>simp only[hb,af,Prod.mk.injEq]at h;obtain⟨rfl,rfl⟩:=h;exact⟨⟨⟨[b],rfl⟩,fun hn=>jk hn (jm hb)⟩,by simp[renV]⟩
 |.ptr b off,σ,σ',v',h=>by
  simp only[cnV]at h;cases hb:σ.idxOf? b with
  |some i=>simp only[hb,af,Prod.mk.injEq]at h;obtain⟨rfl,rfl⟩:=h;exact⟨CnOk.refl _,by simp only[renV,fW hb]⟩
  |none=>simp only[hb,af,Prod.mk.injEq]at h;obtain⟨rfl,rfl⟩:=h;exact⟨⟨⟨[b],rfl⟩,fun hn=>jk hn (jm hb)⟩,by simp[renV]⟩
 |.agg cs,σ,σ',v',h=>by
  simp only[cnV]at h;cases h1:cnL σ cs with
  |none=>simp[h1]at h
  |some p=>
   obtain⟨σ1,l⟩:=p;simp only[h1,af,Prod.mk.injEq]at h;obtain⟨rfl,rfl⟩:=h;obtain⟨h2,h3⟩:=jv cs σ σ1 l h1;exact⟨h2,by simp only[renV,h3]⟩
 |.tuple cs,σ,σ',v',h=>by
  simp only[cnV]at h;cases h1:cnL σ cs with
  |none=>simp[h1]at h
  |some p=>
   obtain⟨σ1,l⟩:=p;simp only[h1,af,Prod.mk.injEq]at h;obtain⟨rfl,rfl⟩:=h;obtain⟨h2,h3⟩:=jv cs σ σ1 l h1;exact⟨h2,by simp only[renV,h3]⟩
 |.iface t v,σ,σ',v',h=>by
  simp only[cnV]at h;cases h1:cnV σ v with
  |none=>simp[h1]at h
  |some p=>
   obtain⟨σ1,l⟩:=p;simp only[h1,af,Prod.mk.injEq]at h;obtain⟨rfl,rfl⟩:=h;obtain⟨h2,h3⟩:=cnV_ok v σ σ1 l h1;exact⟨h2,by simp only[renV,h3]⟩
 |.func fn fs cs,σ,σ',v',h=>by
  simp only[cnV]at h;cases h1:cnL σ fs with
  |none=>simp[h1]at h
  |some p=>
   obtain⟨σ1,l⟩:=p;simp only[h1]at h;cases h2:cnL σ1 cs with
   |none=>simp[h2]at h
   |some q=>
    obtain⟨σ2,k⟩:=q;simp only[h2,af,Prod.mk.injEq]at h;obtain⟨rfl,rfl⟩:=h;obtain⟨g1,g2⟩:=jv fs σ σ1 l h1;obtain⟨g3,g4⟩:=jv cs σ1 σ2 k h2;refine⟨g1.trans g3,?_⟩;obtain⟨⟨t,rfl⟩,_⟩:=g3;simp only[renV,ei l fs g2,g4]
 |.bool _,σ,σ',v',h|.int _ _,σ,σ',v',h|.str _,σ,σ',v',h|.nilPtr,σ,σ',v',h|.nilSlice,σ,σ',v',h|.nilFunc,σ,σ',v',h|.nilIface,σ,σ',v',h|.nilMap,σ,σ',v',h|.gp _ _,σ,σ',v',h|.lst ..,σ,σ',v',h|.lptr ..,σ,σ',v',h=>by
  simp only[cnV,af,Prod.mk.injEq]at h;obtain⟨rfl,rfl⟩:=h;exact⟨CnOk.refl _,rfl⟩
 |.map b,σ,σ',v',h=>by
  simp only[cnV]at h;cases hb:σ.idxOf? b with
  |some i=>simp only[hb,af,Prod.mk.injEq]at h;obtain⟨rfl,rfl⟩:=h;exact⟨CnOk.refl _,by simp only[renV,fW hb]⟩
  |none=>simp only[hb,af,Prod.mk.injEq]at h;obtain⟨rfl,rfl⟩:=h;exact⟨⟨⟨[b],rfl⟩,fun hn=>jk hn (jm hb)⟩,by simp[renV]⟩
 |.nos b n,σ,σ',v',h=>by
  simp only[cnV]at h;cases hb:σ.idxOf? b with
  |some i=>simp only[hb,af,Prod.mk.injEq]at h;obtain⟨rfl,rfl⟩:=h;exact⟨CnOk.refl _,by simp only[renV,fW hb]⟩
  |none=>simp only[hb,af,Prod.mk.injEq]at h;obtain⟨rfl,rfl⟩:=h;exact⟨⟨⟨[b],rfl⟩,fun hn=>jk hn (jm hb)⟩,by simp[renV]⟩
 |.yield _,σ,σ',v',h=>by
  simp[cnV]at h
theorem jv:∀(l:List V) (σ σ':List Nat) (l':List V),cnL σ l=some (σ',l')→CnOk σ σ'∧renL σ' l'=some l
 |[],σ,σ',l',h=>by simp only[cnL,af,Prod.mk.injEq]at h;obtain⟨rfl,rfl⟩:=h;exact⟨CnOk.refl _,rfl⟩
 |v::r,σ,σ',l',h=>by
  simp only[cnL]at h;cases h1:cnV σ v with
  |none=>simp[h1]at h
  |some p=>
   obtain⟨σ1,v1⟩:=p;simp only[h1]at h;cases h2:cnL σ1 r with
   |none=>simp[h2]at h
   |some q=>
    obtain⟨σ2,r1⟩:=q;simp only[h2,af,Prod.mk.injEq]at h;obtain⟨rfl,rfl⟩:=h;obtain⟨g1,k1⟩:=cnV_ok v σ σ1 v1 h1;obtain⟨g2,k2⟩:=jv r _ σ2 r1 h2;refine⟨g1.trans g2,?_⟩;obtain⟨⟨t,rfl⟩,_⟩:=g2;simp only[renL,iU v1 v k1,k2]
end
def cnB(σ:List Nat):Blk→Option (List Nat×Blk)
 |.ro own cs=>match cnL σ cs with
  |some (σ',l)=>some (σ',.ro own l)
  |none=>none
 |.row cs t sz=>match cnL σ cs with
  |some (σ',l)=>some (σ',.row l t sz)
  |none=>none
 |.mp cs=>match cnL σ cs with
  |some (σ',l)=>some (σ',.mp l)
  |none=>none
 |.dead=>some (σ,.dead)
 |_=>none
theorem cnB_ok:∀(b:Blk) (σ σ':List Nat) (b':Blk),cnB σ b=some (σ',b')→CnOk σ σ'∧renB σ' b'=some b
 |.ro own cs,σ,σ',b',h=>by
  simp only[cnB]at h;cases h1:cnL σ cs with
  |none=>simp[h1]at h
  |some p=>
   obtain⟨σ1,l⟩:=p;simp only[h1,af,Prod.mk.injEq]at h;obtain⟨rfl,rfl⟩:=h;obtain⟨h2,h3⟩:=jv cs σ σ1 l h1;exact⟨h2,by simp only[renB,h3]⟩
 |.row cs t sz,σ,σ',b',h=>by
  simp only[cnB]at h;cases h1:cnL σ cs with
  |none=>simp[h1]at h
  |some p=>
   obtain⟨σ1,l⟩:=p;simp only[h1,af,Prod.mk.injEq]at h;obtain⟨rfl,rfl⟩:=h;obtain⟨h2,h3⟩:=jv cs σ σ1 l h1;exact⟨h2,by simp only[renB,h3]⟩
 |.dead,σ,σ',b',h=>by
  simp only[cnB,af,Prod.mk.injEq]at h;obtain⟨rfl,rfl⟩:=h;exact⟨CnOk.refl _,rfl⟩
 |.mp cs,σ,σ',b',h=>by
  simp only[cnB]at h;cases h1:cnL σ cs with
  |none=>simp[h1]at h
  |some p=>
   obtain⟨σ1,l⟩:=p;simp only[h1,af,Prod.mk.injEq]at h;obtain⟨rfl,rfl⟩:=h;obtain⟨h2,h3⟩:=jv cs σ σ1 l h1;exact⟨h2,by simp only[renB,h3]⟩
 |.defd,σ,σ',b',h=>by simp[cnB]at h
 |.mpu,σ,σ',b',h=>by simp[cnB]at h
 |.sit ..,σ,σ',b',h=>by simp[cnB]at h
 |.loop ..,σ,σ',b',h=>by simp[cnB]at h
theorem renB_more{σ τ:List Nat}:∀(b u:Blk),renB σ b=some u→b.cs.length=b.cs.length→(∀s p sz T ps as bd d,b≠.loop s p sz T ps as bd d)→renB (σ++τ) b=some u
 |.ro own cs,u,h,_,_=>by
  simp only[renB]at h ⊢;cases h1:renL σ cs with
  |none=>simp[h1]at h
  |some a=>rw[ei cs a h1];simpa[h1]using h
 |.row cs t sz,u,h,_,_=>by
  simp only[renB]at h ⊢;cases h1:renL σ cs with
  |none=>simp[h1]at h
  |some a=>rw[ei cs a h1];simpa[h1]using h
 |.dead,u,h,_,_=>h
 |.defd,u,h,_,_=>h
 |.mpu,u,h,_,_=>h
 |.sit ..,u,h,_,_=>h
 |.mp cs,u,h,_,_=>by
  simp only[renB]at h ⊢;cases h1:renL σ cs with
  |none=>simp[h1]at h
  |some a=>rw[ei cs a h1];simpa[h1]using h
 |.loop ..,u,h,_,hh=>absurd rfl (hh _ _ _ _ _ _ _ _)
def kT(st:St):Nat→Nat→List Nat→Option (List Nat×St)
 |fuel,i,σ=>match σ[i]? with
  |none=>some (σ,[])
  |some c=>match fuel with
   |0=>none
   |fuel+1=>match st[c]? with
    |none=>none
    |some b=>match cnB σ b with
     |none=>none
     |some (σ1,b1)=>match kT st fuel (i+1) σ1 with
      |none=>none
      |some (σ2,s)=>some (σ2,b1::s)
theorem cnB_loop{σ σ':List Nat}{b b':Blk}(h:cnB σ b=some (σ',b')):∀s p sz T ps as bd d,b'≠.loop s p sz T ps as bd d:=by
 intro s p sz T ps as bd d hb;subst hb;cases b<;>simp only[cnB]at h<;>first|(split at h<;>cases h)|cases h
theorem reach_ok{st:St}:∀(fuel i:Nat) (σ σ':List Nat) (s:St),i≤σ.length→kT st fuel i σ=some (σ',s)→CnOk σ σ'∧σ'.length=i+s.length∧
  ∀(j:Nat) (b:Blk),s[j]?=some b→∃c b',σ'[i+j]?=some c∧st[c]?=some b'∧renB σ' b=some b'∧(∀s p sz T ps as bd d,b≠.loop s p sz T ps as bd d):=by
 intro fuel
 induction fuel with
 |zero=>
  intro i σ σ' s hi h;unfold kT at h;split at h
  ·rename_i hn;cases h;have:=List.getElem?_eq_none_iff.1 hn;exact⟨CnOk.refl _,by simp;omega,fun j b hb=>by simp at hb⟩
  ·cases h
 |succ fuel ih=>
  intro i σ σ' s hi h;unfold kT at h;split at h
  ·rename_i hn;cases h;have:=List.getElem?_eq_none_iff.1 hn;exact⟨CnOk.refl _,by simp;omega,fun j b hb=>by simp at hb⟩
  ·rename_i c hc;simp only at h;cases hb:st[c]? with
   |none=>simp[hb]at h
   |some b=>
    simp only[hb]at h;cases h1:cnB σ b with
    |none=>simp[h1]at h
    |some p=>
     obtain⟨σ1,b1⟩:=p;simp only[h1]at h;cases h2:kT st fuel (i+1) σ1 with
     |none=>simp[h2]at h
     |some q=>
      obtain⟨σ2,s2⟩:=q;simp only[h2,af,Prod.mk.injEq]at h;obtain⟨rfl,rfl⟩:=h;obtain⟨g1,g2⟩:=cnB_ok b σ σ1 b1 h1;have hlt:i<σ.length:=(List.getElem?_eq_some_iff.1 hc).1;have hnl:=cnB_loop h1;have hlen:i+1≤σ1.length:=by obtain⟨⟨t,rfl⟩,_⟩:=g1;simp;omega
      obtain⟨g3,g4,g5⟩:=ih (i+1) σ1 σ2 s2 hlen h2;refine⟨g1.trans g3,by simp[g4];omega,fun j x hx=>?_⟩;cases j with
      |zero=>
       simp only[ce,af]at hx;subst hx;obtain⟨⟨t,rfl⟩,_⟩:=g1;obtain⟨⟨u,rfl⟩,_⟩:=g3;refine⟨c,b,?_,hb,renB_more b1 b g2 rfl hnl,hnl⟩;rw[Nat.add_zero,List.append_assoc,List.getElem?_append_left hlt];exact hc
      |succ j=>
       simp only[List.getElem?_cons_succ]at hx;have:=g5 j x hx;rwa [show i+1+j=i+(j+1) by omega]at this
theorem FnSat.fitsK{P:Program}{g:FuncId}{args:List V}{st:St}{v:V}{s:St}(h:FnSat P g args st (fun u st'=>Fits st.length [v] s [some u] st')):FnSat P g args st (Is (v,s)):=by
 intro B W0 m w rargs hargs hr;refine(h B W0 m w rargs hargs hr).mono ?_;rintro e w' ⟨u,x,m',st',rfl,e1,e2,e3,σ,us,k1,k2,k3,k4,k5⟩;simp only[renL]at k2;cases h1:renV σ v with
 |none=>simp[h1]at k2
 |some u'=>
  simp only[h1,af]at k2;subst k2;simp only[List.map_cons,List.map_nil,List.cons.injEq,af,and_true]at k1;subst k1;exact⟨v,x,renM σ m',s,rfl,ky k5 (Nat.le_of_eq hr.len) e1,gu v u x h1 e2,e3.ren k4 k3,rfl⟩
def left(k:Nat)(u:V)(st:St):Option (V×St):=match cnV (List.range k) u with
 |some (σ,v)=>match kT st (st.length+1) k σ with
  |some (_,n)=>some (v,n)
  |none=>none
 |none=>none
def j5:Nat→St
 |0=>[]
 |n+1=>.dead::j5 n
theorem dt:∀n,(j5 n).length=n
 |0=>rfl
 |n+1=>by simp[j5,dt n]
theorem sH:∀(n i:Nat) (b:Blk),(j5 n)[i]?=some b→b=.dead
 |0,i,b,h=>by simp[j5]at h
 |n+1,0,b,h=>by simp[j5]at h;exact h.symm
 |n+1,i+1,b,h=>sH n i b (by simpa[j5]using h)
def FrOk(P:Program)(g:FuncId)(args:List V)(s:St)(v:V)(n:St):Prop:=FnSat P g args s (Is (v,j5 s.length++n))
theorem left_ok{P:Program}{g:FuncId}{args:List V}{s:St}{u:V}{st':St}{v:V}{n:St}(h:FnSat P g args s (Is (u,st')))(hl:left s.length u st'=some (v,n)):FrOk P g args s v n:=by
 unfold left at hl;cases h1:cnV (List.range s.length) u with
 |none=>simp[h1]at hl
 |some p=>
  obtain⟨σ,v'⟩:=p;simp only[h1]at hl;cases h2:kT st' (st'.length+1) s.length σ with
  |none=>simp[h2]at hl
  |some q=>
   obtain⟨σ2,n'⟩:=q;simp only[h2,af,Prod.mk.injEq]at hl;obtain⟨rfl,rfl⟩:=hl;obtain⟨g1,g2⟩:=cnV_ok u _ σ v' h1;have hlen:s.length≤σ.length:=by obtain⟨⟨t,rfl⟩,_⟩:=g1;simp
   obtain⟨g3,g4,g5⟩:=reach_ok _ _ σ σ2 n' hlen h2;have g6:=g1.trans g3;refine FnSat.fitsK (h.mono ?_);rintro u' st2 hq;cases hq;have hv:renV σ2 v'=some u:=by obtain⟨⟨t,rfl⟩,_⟩:=g3;exact iU v' u g2
   refine⟨σ2,[u],rfl,by simp only[renL,hv],⟨by simp[g4,dt],fun i c b hi hb hd=>?_⟩,g6.2 List.nodup_range,fun i hi=>?_⟩
   ·rcases Nat.lt_or_ge i s.length with hlt|hge
    ·rw[List.getElem?_append_left (by rw[dt];exact hlt)]at hb;exact absurd (sH _ _ _ hb) hd
    ·rw[List.getElem?_append_right (by rw[dt];exact hge),dt]at hb;obtain⟨c',b',k1,k2,k3,_⟩:=g5 _ _ hb;rw[show s.length+(i-s.length)=i by omega]at k1;rw[hi]at k1;cases k1;exact⟨b',.inl k3,k2⟩
   ·obtain⟨⟨t,rfl⟩,_⟩:=g6;rw[List.getElem?_append_left (by simpa using hi)];simp[hi]
section
variable {τ:List Nat} {m m':List MB}
def Fwd(τ:List Nat)(m m':List MB):Prop:=∀b c e,τ[b]?=some c→at? m b=some e→at? m' c=some e
mutual
theorem mz(hk:Fwd τ m m'):∀(v u:V) (x:Value),renV τ v=some u→real m v=some x→real m' u=some x
 |.ptr b off,u,x,h,hx=>by
  simp only[renV]at h;cases hb:τ[b]? with
  |none=>simp[hb]at h
  |some c=>
   simp only[hb,af]at h;subst h;obtain⟨e,he,rfl⟩:=cS hx;simp only[real,hk b c e hb he]
 |.slice b off len ex c z,u,x,h,hx=>by
  simp only[renV]at h;cases hb:τ[b]? with
  |none=>simp[hb]at h
  |some d=>
   simp only[hb,af]at h;subst h;simp only[real]at hx ⊢;cases he:at? m b with
   |none=>simp[he]at hx
   |some e=>simp only[he]at hx;simp only[hk b d e hb he];exact hx
 |.map b,u,x,h,hx=>by
  simp only[renV]at h;cases hb:τ[b]? with
  |none=>simp[hb]at h
  |some c=>
   simp only[hb,af]at h;subst h;simp only[real]at hx ⊢;cases he:at? m b with
   |none=>simp[he]at hx
   |some e=>simp only[he]at hx;simp only[hk b c e hb he];exact hx
 |.nos b n,u,x,h,hx=>by
  simp only[renV]at h;cases hb:τ[b]? with
  |none=>simp[hb]at h
  |some c=>
   simp only[hb,af]at h;subst h;simp only[real]at hx ⊢;cases he:at? m b with
   |none=>simp[he]at hx
   |some e=>simp only[he]at hx;simp only[hk b c e hb he];exact hx
 |.yield b,u,x,h,hx=>by
  simp only[renV]at h;cases hb:τ[b]? with
  |none=>simp[hb]at h
  |some c=>
   simp only[hb,af]at h;subst h;simp only[real]at hx ⊢;cases he:at? m b with
   |none=>simp[he]at hx
   |some e=>simp only[he]at hx;simp only[hk b c e hb he];exact hx
 |.func fn fs cs,u,x,h,hx=>by
  simp only[renV]at h;cases h1:renL τ fs with
  |none=>simp[h1]at h
  |some a=>
   cases h2:renL τ cs with
   |none=>simp[h1,h2]at h
   |some b=>
    simp only[h1,h2,af]at h;subst h;simp only[real]at hx ⊢;cases g1:ap m fs with
    |none=>simp[g1]at hx
    |some xs=>
     cases g2:ap m cs with
     |none=>simp[g1,g2]at hx
     |some ys=>simp only[g1,g2]at hx;simp only[gZ hk fs a xs h1 g1,gZ hk cs b ys h2 g2];exact hx
 |.iface t v,u,x,h,hx=>by
  simp only[renV]at h;cases h1:renV τ v with
  |none=>simp[h1]at h
  |some a=>
   simp only[h1,af]at h;subst h;simp only[real]at hx ⊢;cases g1:real m v with
   |none=>simp[g1]at hx
   |some y=>simp only[g1]at hx;simp only[mz hk v a y h1 g1];exact hx
 |.agg cs,u,x,h,hx=>by
  simp only[renV]at h;cases h1:renL τ cs with
  |none=>simp[h1]at h
  |some a=>
   simp only[h1,af]at h;subst h;simp only[real]at hx ⊢;cases g1:ap m cs with
   |none=>simp[g1]at hx
   |some y=>simp only[g1]at hx;simp only[gZ hk cs a y h1 g1];exact hx
 |.tuple cs,u,x,h,hx=>by
  simp only[renV]at h;cases h1:renL τ cs with
  |none=>simp[h1]at h
  |some a=>
   simp only[h1,af]at h;subst h;simp only[real]at hx ⊢;cases g1:ap m cs with
   |none=>simp[g1]at hx
   |some y=>simp only[g1]at hx;simp only[gZ hk cs a y h1 g1];exact hx
 |.bool _,u,x,h,hx|.int _ _,u,x,h,hx|.str _,u,x,h,hx|.nilPtr,u,x,h,hx|.nilSlice,u,x,h,hx|.nilFunc,u,x,h,hx|.nilIface,u,x,h,hx|.nilMap,u,x,h,hx|.gp _ _,u,x,h,hx|.lst ..,u,x,h,hx|.lptr ..,u,x,h,hx=>by
  simp only[renV,af]at h;subst h;simpa only[real]using hx
theorem gZ(hk:Fwd τ m m'):∀(l l':List V) (x:List Value),renL τ l=some l'→ap m l=some x→ap m' l'=some x
 |[],l',x,h,hx=>by simp only[renL,af]at h;subst h;simpa[ap]using hx
 |v::r,l',x,h,hx=>by
  simp only[renL]at h;cases h1:renV τ v with
  |none=>simp[h1]at h
  |some a=>
   cases h2:renL τ r with
   |none=>simp[h1,h2]at h
   |some b=>
    simp only[h1,h2,af]at h;subst h;obtain⟨y,ys,g1,g2,rfl⟩:=aj hx;exact aI (mz hk v a y h1 g1) (gZ hk r b ys h2 g2)
end
end
theorem rG{τ:List Nat}:∀{l l':List V} {i:Nat} {u:V},renL τ l=some l'→l'[i]?=some u→∃v,renV τ v=some u∧l[i]?=some v
 |[],l',i,u,h,hi=>by simp only[renL,af]at h;subst h;simp at hi
 |w::r,l',i,u,h,hi=>by
  simp only[renL]at h;cases h1:renV τ w with
  |none=>simp[h1]at h
  |some a=>
   cases h2:renL τ r with
   |none=>simp[h1,h2]at h
   |some b=>
    simp only[h1,h2,af]at h;subst h;cases i with
    |zero=>simp only[ce,af]at hi;subst hi;exact⟨w,h1,rfl⟩
    |succ i=>
     obtain⟨v,k1,k2⟩:=rG h2 (by simpa using hi);exact⟨v,k1,by simpa using k2⟩
def outB(τ:List Nat):Blk→Option Blk
 |.ro true cs=>match renL τ cs with
  |some l=>some (.ro true l)
  |none=>none
 |.row cs t sz=>match renL τ cs with
  |some l=>some (.row l t sz)
  |none=>none
 |.mp cs=>match renL τ cs with
  |some l=>some (.mp l)
  |none=>none
 |_=>some .dead
def outS(τ:List Nat):St→Option St
 |[]=>some []
 |b::r=>match outB τ b with
  |some c=>match outS τ r with
   |some s=>some (c::s)
   |none=>none
  |none=>none
theorem outS_get{τ:List Nat}:∀{n s:St},outS τ n=some s→s.length=n.length∧∀(i:Nat) (c:Blk),s[i]?=some c→∃b,n[i]?=some b∧outB τ b=some c
 |[],s,h=>by simp only[outS,af]at h;subst h;exact⟨rfl,fun i c hc=>by simp at hc⟩
 |b::r,s,h=>by
  simp only[outS]at h;cases h1:outB τ b with
  |none=>simp[h1]at h
  |some c=>
   cases h2:outS τ r with
   |none=>simp[h1,h2]at h
   |some q=>
    simp only[h1,h2,af]at h;subst h;obtain⟨k1,k2⟩:=outS_get h2;refine⟨by simp[k1],fun i x hx=>?_⟩;cases i with
    |zero=>simp only[ce,af]at hx;subst hx;exact⟨b,rfl,h1⟩
    |succ i=>simp only[List.getElem?_cons_succ]at hx ⊢;exact k2 i x hx
theorem rQ{τ:List Nat}{b c:Blk}(h:outB τ b=some c):(c.live=true→b.live=true)∧(c.rw=true→b.rw=true):=by
 cases b with
 |ro own cs=>
  cases own with
  |true=>simp only[outB]at h;split at h<;>cases h;exact⟨fun _=>rfl,fun h=>h⟩
  |false=>cases h;exact⟨fun _=>rfl,fun h=>h⟩
 |row cs t sz=>simp only[outB]at h;split at h<;>cases h;exact⟨fun _=>rfl,fun h=>h⟩
 |mp cs=>simp only[outB]at h;split at h<;>cases h;exact⟨fun _=>rfl,fun h=>h⟩
 |mpu=>cases h;exact⟨fun h=>(by cases h),fun h=>(by cases h)⟩
 |sit s p=>cases h;exact⟨fun h=>(by cases h),fun h=>(by cases h)⟩
 |dead=>cases h;exact⟨fun h=>h,fun h=>h⟩
 |defd=>cases h;exact⟨fun h=>(by cases h),fun h=>(by cases h)⟩
 |loop=>cases h;exact⟨fun h=>(by cases h),fun h=>(by cases h)⟩
def cw(a:Nat):Nat→List Nat
 |0=>[]
 |n+1=>a::cw (a+1) n
theorem kY:∀(n a i:Nat) (c:Nat),(cw a n)[i]?=some c→c=a+i
 |0,a,i,c,h=>by simp[cw]at h
 |n+1,a,0,c,h=>by simp[cw]at h;exact h.symm
 |n+1,a,i+1,c,h=>by
  have:=kY n (a+1) i c (by simpa[cw]using h);omega
section
variable {B:Nat} {W0 w w':World} {m m2:List MB} {st s2 n:St} {σ:List Nat}
theorem Rel.back(h:Rel B W0 m st w)(hs:∀(i c:Nat),σ[i]?=some c→∃e,m[c]?=some e)(h2:Rel w.heap.size w m2 (j5 σ.length++n) w')(he:Ext (renM σ m) m2){n':St}
  (hn:outS (σ++cw st.length n.length) n=some n'):Fwd (σ++cw st.length n.length) m2 (m++m2.drop σ.length)∧Rel B W0 (m++m2.drop σ.length) (st++n') w':=by
 have hm2:m2.length=σ.length+n.length:=by rw[h2.len];simp[dt]
 have hml:m.length=st.length:=h.len;have hext:Ext m (m++m2.drop σ.length):=fun b x hb=>by
  rw[List.getElem?_append_left (List.getElem?_eq_some_iff.1 hb).1];exact hb
 have hfw:Fwd (σ++cw st.length n.length) m2 (m++m2.drop σ.length):=by
  intro b c e hb hbe;rcases Nat.lt_or_ge b σ.length with hlt|hge
  ·rw[List.getElem?_append_left hlt]at hb;obtain⟨e',he'⟩:=hs b c hb;have h1:(renM σ m)[b]?=some e':=by unfold renM;rw[List.getElem?_map,hb];simp[he']
   have h3:=he b e' h1;rw[cp hbe]at h3;cases h3;exact uD hext (lh he' (ir hbe))
  ·rw[List.getElem?_append_right hge]at hb;have hc:=kY _ _ _ _ hb;subst hc;refine lh ?_ (ir hbe);rw[List.getElem?_append_right (by omega),List.getElem?_drop];rw[show σ.length+(st.length+(b-σ.length)-m.length)=b by omega];exact cp hbe
 refine⟨hfw,?_⟩;obtain⟨o1,o2⟩:=outS_get hn;have h1:=h.later h2.below;have old:∀{j:Nat} {b:Blk} {e:MB},(st++n')[j]?=some b→(m++m2.drop σ.length)[j]?=some e→
   (j<st.length∧st[j]?=some b∧m[j]?=some e)∨(∃i c,j=st.length+i∧(j5 σ.length++n)[σ.length+i]?=some c∧m2[σ.length+i]?=some e∧outB (σ++cw st.length n.length) c=some b):=by
  intro j b e hj hje;rcases Nat.lt_or_ge j st.length with hlt|hge
  ·rw[List.getElem?_append_left hlt]at hj;rw[List.getElem?_append_left (hml▸hlt)]at hje;exact .inl ⟨hlt,hj,hje⟩
  ·rw[List.getElem?_append_right hge]at hj;rw[List.getElem?_append_right (hml▸hge),hml,List.getElem?_drop]at hje;obtain⟨c,k1,k2⟩:=o2 _ _ hj;refine .inr ⟨j-st.length,c,by omega,?_,hje,k2⟩;rw[List.getElem?_append_right (by rw[dt];omega),dt,show σ.length+(j-st.length)-σ.length=j-st.length by omega];exact k1
 have isnew:∀{i:Nat} {c b:Blk} {e:MB},(j5 σ.length++n)[i]?=some c→m2[i]?=some e→outB (σ++cw st.length n.length) c=some b→b.live=true→w.heap.size≤e.blk:=by
  intro i c b e hi hie ho hl;cases c with
  |row cs t sz=>exact(h2.blk _ _ _ hi hie).1
  |ro own cs=>
   cases own with
   |true=>exact(h2.blk _ _ _ hi hie).1 rfl
   |false=>cases ho;cases hl
  |dead=>cases ho;cases hl
  |mp cs=>exact(h2.blk _ _ _ hi hie).1
  |mpu=>cases ho;cases hl
  |sit s p=>cases ho;cases hl
  |defd=>cases ho;cases hl
  |loop=>cases ho;cases hl
 refine⟨by simp[hml,o1,hm2],h1.base,h1.below,fun j b e hj hje=>?_,fun i j b c d e hij hi hbr hj hcl hd hje=>?_,h.glob⟩
 ·rcases old hj hje with⟨_,hj,hje⟩|⟨i,c,rfl,hc,hje,ho⟩
  ·exact(h1.blk j b e hj hje).mono hext
  ·have hk:=h2.blk _ c e hc hje;cases c with
   |dead=>cases ho;trivial
   |mpu=>cases ho;trivial
   |sit s p=>cases ho;trivial
   |mp cs=>
    simp only[outB]at ho;cases hl:renL (σ++cw st.length n.length) cs with
    |none=>simp[hl]at ho
    |some l=>
     simp only[hl,af]at ho;subst ho;obtain⟨a1,es,c,xs,a3,a4,a5⟩:=hk;exact⟨Nat.le_trans h.base a1,es,c,xs,a3,gZ hfw cs l xs hl a4,a5⟩
   |defd=>cases ho;trivial
   |loop=>cases ho;trivial
   |ro own cs=>
    cases own with
    |false=>cases ho;trivial
    |true=>
     simp only[outB]at ho;cases hl:renL (σ++cw st.length n.length) cs with
     |none=>simp[hl]at ho
     |some l=>
      simp only[hl,af]at ho;subst ho;obtain⟨a0,arr,t,fz,a1,a2⟩:=hk;refine⟨fun _=>Nat.le_trans h.base (a0 rfl),arr,t,fz,a1,fun i v hv=>?_⟩;obtain⟨u,hu,hg⟩:=rG hl hv;obtain⟨x,hx,ha⟩:=a2 i u hg;exact⟨x,mz hfw u v x hu hx,ha⟩
   |row cs t sz=>
    simp only[outB]at ho;cases hl:renL (σ++cw st.length n.length) cs with
    |none=>simp[hl]at ho
    |some l=>
     simp only[hl,af]at ho;subst ho;obtain⟨a1,a2,arr,xs,a3,a4,a5⟩:=hk;exact⟨Nat.le_trans h.base a1,a2,arr,xs,a3,gZ hfw cs l xs hl a4,a5⟩
 ·rcases old hi hd with⟨_,hi,hd⟩|⟨i',b',rfl,hi',hd,hob⟩
  ·rcases old hj hje with⟨_,hj,hje⟩|⟨j',c',rfl,hj',hje,hoc⟩
   ·exact h.inj i j b c d e hij hi hbr hj hcl hd hje
   ·have rwl:b.live=true:=by cases b<;>simp_all [Blk.rw,Blk.live]
    have l1:=(h.blk i b d hi hd).lt rwl;have:=isnew hj' hje hoc hcl;omega
  ·rcases old hj hje with⟨_,hj,hje⟩|⟨j',c',rfl,hj',hje,hoc⟩
   ·have l1:=(h.blk j c e hj hje).lt hcl;have rwl:b.live=true:=by cases b<;>simp_all [Blk.rw,Blk.live]
    have:=isnew hi' hd hob rwl;omega
   ·exact h2.inj _ _ b' c' d e (by omega) hi' ((rQ hob).2 hbr) hj' ((rQ hoc).1 hcl) hd hje
end
/-- Calls by what they see: a function, its arguments, the blocks these kT; a value, and new blocks. -/
abbrev Fram:=FuncId→List V→St→Option (V×St)
def FramOk(P:Program)(f:Fram):Prop:=∀g args s v n,f g args s=some (v,n)→FrOk P g args s v n
def frameC(f:Fram)(g:FuncId)(args:List V)(st:St):Option (V×St):=match cnL [] args with
 |none=>none
 |some (σ0,args')=>match kT st (st.length+1) 0 σ0 with
  |none=>none
  |some (σ,s)=>match f g args' (s.map Blk.toRo)with
   |none=>none
   |some (v,n)=>match renV (σ++cw st.length n.length) v with
    |none=>none
    |some u=>match outS (σ++cw st.length n.length) n with
     |none=>none
     |some n'=>some (u,st++n')
theorem frameC_ok{P:Program}{f:Fram}(hf:FramOk P f){g:FuncId}{args:List V}{st:St}{r:V×St}(h:frameC f g args st=some r):FnSat P g args st (Is r):=by
 unfold frameC at h;cases h1:cnL [] args with
 |none=>simp[h1]at h
 |some p=>
  obtain⟨σ0,args'⟩:=p;simp only[h1]at h;cases h2:kT st (st.length+1) 0 σ0 with
  |none=>simp[h2]at h
  |some q=>
   obtain⟨σ,s⟩:=q;simp only[h2]at h;cases h3:f g args' (s.map Blk.toRo)with
   |none=>simp[h3]at h
   |some q3=>
    obtain⟨v,n⟩:=q3;simp only[h3]at h;cases h4:renV (σ++cw st.length n.length) v with
    |none=>simp[h4]at h
    |some u=>
     simp only[h4]at h;cases h5:outS (σ++cw st.length n.length) n with
     |none=>simp[h5]at h
     |some n'=>
      simp only[h5,af]at h;subst h;obtain⟨g1,g2⟩:=jv args _ σ0 args' h1;obtain⟨g3,g4,g5⟩:=reach_ok _ _ σ0 σ s (Nat.zero_le _) h2;have hfr:=hf g args' _ v n h3;intro B W0 m w rargs hargs hr;have hargs2:renL σ args'=some args:=by obtain⟨⟨t,rfl⟩,_⟩:=g3;exact ei args' args g2
      have hsl:s.length=σ.length:=by omega
      have hin:∀(i c:Nat),σ[i]?=some c→∃e,m[c]?=some e:=by
       intro i c hc;have hi:i<s.length:=by rw[hsl];exact(List.getElem?_eq_some_iff.1 hc).1
       obtain⟨c',b',k1,k2,_⟩:=g5 i s[i] (List.getElem?_eq_getElem hi);rw[Nat.zero_add,hc]at k1;cases k1;obtain⟨e,he,_⟩:=hr.at k2;exact⟨e,he⟩
      have hrel:Rel w.heap.size w (renM σ m) (s.map Blk.toRo) w:=by
       refine Rel.ofRo hr.gok (by simp[renM,hsl]) fun i b e hb he=>?_;rw[List.getElem?_map]at hb;cases hsi:s[i]? with
       |none=>simp[hsi]at hb
       |some bb=>
        simp only[hsi,Option.map_some,af]at hb;subst hb;obtain⟨c,b',k1,k2,k3,_⟩:=g5 i bb hsi;rw[Nat.zero_add]at k1;obtain⟨e',k4,k5⟩:=hr.at k2;unfold renM at he;rw[List.getElem?_map,k1]at he;simp only[Option.map_some,k4,Option.getD_some,af]at he;subst he;exact⟨(renB_ok k3 k5).toRo w.heap.size,mc bb⟩
      refine(hfr w.heap.size w (renM σ m) w rargs (gw args' args rargs hargs2 hargs) hrel).mono ?_;rintro e w' ⟨v',x,m2,st',rfl,e1,e2,e3,hq⟩;cases hq;rw[cg,hsl]at e3;obtain⟨hfw,hrl⟩:=hr.back hin e3 e1 h5;refine⟨u,x,m++m2.drop σ.length,st++n',rfl,fun b x hb=>?_,mz hfw v u x h4 e2,hrl,rfl⟩;rw[List.getElem?_append_left (List.getElem?_eq_some_iff.1 hb).1];exact hb
structure EntF where
 g:Nat
 args:List V
 st:St
 v:V
 n:St
def dR(P:Program)(e:EntF):Prop:=FrOk P e.g e.args e.st e.v e.n
def seekF(g:Nat)(args:List V)(st:St):List EntF→Option (V×St)
 |[]=>none
 |e::r=>bif Nat.beq e.g g&&(eqLL e.args args&&eqSt e.st st)then some (e.v,e.n)else seekF g args st r
theorem seekF_ok{P:Program}{g:Nat}{args:List V}{st:St}{v:V}{n:St}:∀{es:List EntF},(∀e∈es,dR P e)→seekF g args st es=some (v,n)→FrOk P g args st v n
 |[],_,h=>by cases h
 |e::es,hE,h=>by
  simp only[seekF]at h;cases hb:(Nat.beq e.g g&&(eqLL e.args args&&eqSt e.st st))with
  |false=>rw[hb,ak]at h;exact seekF_ok (fun e he=>hE e (List.mem_cons_of_mem _ he)) h
  |true=>
   rw[hb,ae]at h;cases h;simp only[ad]at hb;have h1:=aP hb.1;have h2:=gE _ _ hb.2.1;have h3:=um hb.2.2;have:=hE e List.mem_cons_self;unfold dR at this;rw[h1,h2,h3]at this;exact this
def EF(P:Program)(gs:FuncId→Bool)(kn:List EntF)(ct:Call)(lim:Nat):Nat→Call
 |0=>fun _ _ _=>none
 |n+1=>fun tgt args st=>match ct tgt args st with
  |some r=>some r
  |none=>match tgt with
   |.fn g=>match(bif gs g then frameC (fun g args s=>forced lim args s fun args s=>match seekF g args s kn with
     |some r=>some r
     |none=>match nP P (EF P gs kn ct lim n) lim g args s with
      |some (u,s')=>left s.length u s'
      |none=>none) g args st else none)with
    |some r=>some r
    |none=>bif gs g then none else forced lim args st fun args st=>nP P (EF P gs kn ct lim n) lim g args st
   |.yld l=>forced lim args st fun args st=>o0 P (EF P gs kn ct lim n) lim l args st
theorem EF_ok{P:Program}(hm:P.follows .mixedOrders=true){gs:FuncId→Bool}{kn:List EntF}(hE:∀e∈kn,dR P e){ct:Call}(hct:bS P ct)(lim:Nat):∀n,bS P (EF P gs kn ct lim n)
 |0=>fun tgt args st r h=>by cases h
 |n+1=>fun tgt args st r h=>by
  simp only[EF]at h;split at h
  ·rename_i q hq;cases h;exact hct tgt args st _ hq
  ·split at h
   ·rename_i g _;split at h
    ·rename_i q hq;cases h;cases hg:gs g with
     |false=>rw[hg]at hq;cases hq
     |true=>
      rw[hg,ae]at hq;refine frameC_ok (P:=P) ?_ hq;intro g' args' s v nn hv;simp only[kA]at hv;split at hv
      ·rename_i q2 hq2;cases hv;exact seekF_ok hE hq2
      ·split at hv
       ·rename_i u s' hu;exact left_ok (kE hm (EF_ok hm hE hct lim n) hu) hv
       ·cases hv
    ·cases hg:gs g with
     |true=>rw[hg]at h;cases h
     |false=>
      rw[hg,ak,kA]at h;exact kE hm (EF_ok hm hE hct lim n) h
   ·rw[kA]at h;exact qw hm (EF_ok hm hE hct lim n) h
def isF(k:Nat)(o:Option (V×St))(v:V)(n:St):Bool:=match o with
 |some (u,s)=>match left k u s with
  |some (v',n')=>eqVV v' v&&eqSt n' n
  |none=>false
 |none=>false
theorem m4{P:Program}(hm:P.follows .mixedOrders=true){gs:FuncId→Bool}{kn:List EntF}(hE:∀e∈kn,dR P e){ct:Call}(hct:bS P ct){lim n:Nat}{e:EntF}
  (h:isF e.st.length (nP P (EF P gs kn ct lim n) lim e.g e.args e.st) e.v e.n=true):dR P e:=by
 unfold isF at h;split at h
 ·rename_i u s hu;split at h
  ·rename_i v' n' hl;rw[ad]at h;have:=left_ok (kE hm (EF_ok hm hE hct lim n) hu) hl;rw[ul _ _ h.1,um h.2]at this;exact this
  ·cases h
 ·cases h
theorem entf_nil{P:Program}:∀e∈([]:List EntF),dR P e:=fun e h=>by cases h
theorem kG{P:Program}{e:EntF}{es:List EntF}(h:dR P e)(hs:∀e∈es,dR P e):∀e'∈e::es,dR P e':=fun e' he=>by
 rcases List.mem_cons.1 he with rfl|he
 ·exact h
 ·exact hs e' he
end Go.Vm
namespace Go.Vm
open Go.RowKit
section
variable [G:Glob]
mutual
theorem bJ{Φ Ψ:Frz}{m m':List MB}:∀(v:V) (x:Value),v.plain=true→@real G Φ m v=some x→@real G Ψ m' v=some x
 |.bool _,_,_,hx|.int _ _,_,_,hx|.str _,_,_,hx|.nilPtr,_,_,hx|.nilSlice,_,_,hx|.nilFunc,_,_,hx|.nilIface,_,_,hx|.nilMap,_,_,hx|.gp _ _,_,_,hx=>by
  simpa[real]using hx
 |.ptr b off,x,hf,_=>by cases hf
 |.slice b off len ex c z,x,hf,_=>by cases hf
 |.yield b,x,hf,_=>by cases hf
 |.map b,x,hf,_=>by cases hf
 |.nos ..,x,hf,_=>by cases hf
 |.lst ..,x,hf,_=>by cases hf
 |.lptr ..,x,hf,_=>by cases hf
 |.func fn fs cs,x,hf,hx=>by
  simp only[V.plain,ad]at hf;simp only[real]at hx ⊢;cases h1:@ap G Φ m fs with
  |none=>simp[h1]at hx
  |some a=>
   cases h2:@ap G Φ m cs with
   |none=>simp[h1,h2]at hx
   |some b=>simp only[h1,h2]at hx;simp only[bw (Ψ:=Ψ) (m':=m') fs a hf.1 h1,bw (Ψ:=Ψ) (m':=m') cs b hf.2 h2];exact hx
 |.iface t v,x,hf,hx=>by
  simp only[V.plain]at hf;simp only[real]at hx ⊢;cases h1:@real G Φ m v with
  |none=>simp[h1]at hx
  |some a=>simp only[h1]at hx;simp only[bJ (Ψ:=Ψ) (m':=m') v a hf h1];exact hx
 |.agg cs,x,hf,hx=>by
  simp only[V.plain]at hf;simp only[real]at hx ⊢;cases h1:@ap G Φ m cs with
  |none=>simp[h1]at hx
  |some a=>simp only[h1]at hx;simp only[bw (Ψ:=Ψ) (m':=m') cs a hf h1];exact hx
 |.tuple cs,x,hf,hx=>by
  simp only[V.plain]at hf;simp only[real]at hx ⊢;cases h1:@ap G Φ m cs with
  |none=>simp[h1]at hx
  |some a=>simp only[h1]at hx;simp only[bw (Ψ:=Ψ) (m':=m') cs a hf h1];exact hx
theorem bw{Φ Ψ:Frz}{m m':List MB}:∀(l:List V) (x:List Value),en l=true→@ap G Φ m l=some x→@ap G Ψ m' l=some x
 |[],_,_,hx=>by simpa[ap]using hx
 |v::r,x,hf,hx=>by
  simp only[en,ad]at hf;simp only[ap]at hx ⊢;cases h1:@real G Φ m v with
  |none=>simp[h1]at hx
  |some a=>
   cases h2:@ap G Φ m r with
   |none=>simp[h1,h2]at hx
   |some b=>simp only[h1,h2]at hx;simp only[bJ (Ψ:=Ψ) (m':=m') v a hf.1 h1,bw (Ψ:=Ψ) (m':=m') r b hf.2 h2];exact hx
end
@[reducible] def Frz.of (w:World):Frz:=⟨fun k=>w.heap[k]?⟩
theorem LstOk.more{Φ Ψ:Frz}(h:∀k o,Φ.φ k=some o→Ψ.φ k=some o){x:Value}{n:Nat}{xs:List Value}(hl:@LstOk Φ x n xs):@LstOk Ψ x n xs:=by
 rcases hl with hl|⟨b,off,cap,arr,t,fz,h1,h2,h3,h4,h5⟩
 ·exact .inl hl
 ·exact .inr ⟨b,off,cap,arr,t,fz,h1,h2,h3,h _ _ h4,h5⟩
mutual
theorem pA{Φ Ψ:Frz}(h:∀k o,Φ.φ k=some o→Ψ.φ k=some o):∀(v:V) (x:Value),@ef Φ v=some x→@ef Ψ v=some x
 |.bool _,_,hx|.int _ _,_,hx|.str _,_,hx|.nilPtr,_,hx|.nilSlice,_,hx=>by simpa only[ef]using hx
 |.lst y n cs,x,hx=>by
  simp only[ef]at hx ⊢;cases h1:@bh Φ cs with
  |none=>simp[h1]at hx
  |some xs=>
   simp only[h1]at hx;obtain⟨rfl,h2⟩:=@tZ G Φ _ _ _ _ hx;simp only[gb h cs xs h1];exact @mI G Ψ _ _ _ (h2.more h)
 |.nilFunc,_,hx|.nilIface,_,hx|.nilMap,_,hx|.gp _ _,_,hx|.ptr ..,_,hx|.slice ..,_,hx|.yield _,_,hx|.map _,_,hx|.func ..,_,hx|.iface ..,_,hx|.agg _,_,hx|.tuple _,_,hx|.lptr ..,_,hx|.nos ..,_,hx=>by simp[ef]at hx
theorem gb{Φ Ψ:Frz}(h:∀k o,Φ.φ k=some o→Ψ.φ k=some o):∀(l:List V) (x:List Value),@bh Φ l=some x→@bh Ψ l=some x
 |[],_,hx=>by simpa only[bh]using hx
 |v::r,x,hx=>by
  simp only[bh]at hx ⊢;cases h1:@ef Φ v with
  |none=>simp[h1]at hx
  |some a=>
   cases h2:@bh Φ r with
   |none=>simp[h1,h2]at hx
   |some b=>simp only[h1,h2]at hx;simp only[pA h v a h1,gb h r b h2];exact hx
end
theorem Rel.more{Φ:Frz}{B:Nat}{W0 w:World}{m:List MB}{st:St}(h:@Rel G Φ B W0 m st w):∀k o,Φ.φ k=some o→(Frz.of w).φ k=some o:=fun k o hk=>h.frz hk
mutual
theorem kp{Φ Ψ:Frz}(h:∀k o,Φ.φ k=some o→Ψ.φ k=some o){m:List MB}:∀(v:V) (x:Value),@real G Φ m v=some x→@real G Ψ m v=some x
 |.bool _,_,hx|.int _ _,_,hx|.str _,_,hx|.nilPtr,_,hx|.nilSlice,_,hx|.nilFunc,_,hx|.nilIface,_,hx|.nilMap,_,hx|.gp _ _,_,hx|.ptr ..,_,hx|.slice ..,_,hx|.yield _,_,hx|.map _,_,hx|.nos ..,_,hx=>by
  simpa only[real]using hx
 |.lst y n cs,x,hx=>by
  simp only[real]at hx ⊢;cases h1:@bh Φ cs with
  |none=>simp[h1]at hx
  |some xs=>
   simp only[h1]at hx;obtain⟨rfl,h2⟩:=@tZ G Φ _ _ _ _ hx;simp only[gb h cs xs h1];exact @mI G Ψ _ _ _ (h2.more h)
 |.lptr y n cs o,x,hx=>by
  obtain⟨xs,b,off,cap,arr,t,fz,q0,rfl,rfl,q1,q2,q3,q4⟩:=@fT G Φ m _ _ _ _ _ hx;exact @fI G Ψ m _ _ _ _ _ _ _ _ _ _ (gb h cs xs q0) q1 q2 (h _ _ q3) q4
 |.func fn fs cs,x,hx=>by
  simp only[real]at hx ⊢;cases h1:@ap G Φ m fs with
  |none=>simp[h1]at hx
  |some a=>
   cases h2:@ap G Φ m cs with
   |none=>simp[h1,h2]at hx
   |some b=>simp only[h1,h2]at hx;simp only[g9 h fs a h1,g9 h cs b h2];exact hx
 |.iface t v,x,hx=>by
  simp only[real]at hx ⊢;cases h1:@real G Φ m v with
  |none=>simp[h1]at hx
  |some a=>simp only[h1]at hx;simp only[kp h v a h1];exact hx
 |.agg cs,x,hx=>by
  simp only[real]at hx ⊢;cases h1:@ap G Φ m cs with
  |none=>simp[h1]at hx
  |some a=>simp only[h1]at hx;simp only[g9 h cs a h1];exact hx
 |.tuple cs,x,hx=>by
  simp only[real]at hx ⊢;cases h1:@ap G Φ m cs with
  |none=>simp[h1]at hx
  |some a=>simp only[h1]at hx;simp only[g9 h cs a h1];exact hx
theorem g9{Φ Ψ:Frz}(h:∀k o,Φ.φ k=some o→Ψ.φ k=some o){m:List MB}:∀(l:List V) (x:List Value),@ap G Φ m l=some x→@ap G Ψ m l=some x
 |[],_,hx=>by simpa only[ap]using hx
 |v::r,x,hx=>by
  simp only[ap]at hx ⊢;cases h1:@real G Φ m v with
  |none=>simp[h1]at hx
  |some a=>
   cases h2:@ap G Φ m r with
   |none=>simp[h1,h2]at hx
   |some b=>simp only[h1,h2]at hx;simp only[kp h v a h1,g9 h r b h2];exact hx
end
theorem GOk.all{Φ:Frz}{w:World}(h:@GOk G Φ w.heap.size w):@GOk G (Frz.of w) w.heap.size w:=by
 refine⟨fun k cs hk=>?_,h.2.1,fun k o hk=>⟨(Array.getElem?_eq_some_iff.1 hk).1,hk⟩⟩;obtain⟨h1,arr,t,fz,h2,h3,h4⟩:=h.1 k cs hk;refine⟨h1,arr,t,fz,h2,fun i v hi=>?_,h4⟩;obtain⟨x,hx,ha⟩:=h3 i v hi;exact⟨x,kp (Φ:=Φ) (Ψ:=Frz.of w) (fun k o hk=>(h.2.2 k o hk).2) v x hx,ha⟩
theorem cx{Φ:Frz}{P:Program}{g:FuncId}{args:List V}{st:St}{v:V}(hv:v.plain=true)
  (h:∀(B:Nat) (W0 w:World) (m:List MB) (rargs:List Value),@Rel G Φ B W0 m st w→@ap G Φ m args=some rargs→∃args',@ap G (Frz.of w) [] args'=some rargs∧@FnSat G (Frz.of w) P g args' [] (Is (v,[]))):@FnSat G Φ P g args st (Is (v,st)):=by
 intro B W0 m w rargs ha hr;obtain⟨args',h1,h2⟩:=h B W0 w m rargs hr ha;refine(h2 w.heap.size w [] w rargs h1 (@Rel.empty G (Frz.of w) w hr.gok.all)).mono ?_;rintro e w' ⟨u,x,m',s',rfl,_,hx,hrel,hq⟩;cases hq;exact⟨v,x,m,st,rfl,Ext.refl m,bJ v x hv hx,@Rel.later G Φ _ _ _ _ _ _ hr (@Rel.below G (Frz.of w) _ _ _ _ _ hrel),rfl⟩
theorem frz_law{P:Program}{g:FuncId}{args:List V}{rargs:List Value}{w:World}(h:@FnSat G (Frz.of w) P g args [] (fun v _=>v=.bool true))(ha:@ap G (Frz.of w) [] args=some rargs)(hg:@GOk G (Frz.of w) w.heap.size w):
  Calls P g rargs.toArray w (fun e w'=>e=.returned (.bool true)∧Below w.heap.size w w'):=
 @law_of_sat G (Frz.of w) P g args rargs h ha w hg
end
section
variable [G:Glob]
def cQ(st:St)(sz:Nat):V→Option (Bool×(Nat×List V))
 |.nilSlice=>some (true,(0,[]))
 |.lst _ n cs=>some (Nat.beq cs.length (n*sz),(n,cs))
 |.slice b off n _ _ _=>match st[b]? with
  |some (.row cs _ _)=>some (Nat.ble (off+n*sz) cs.length,(n,(cs.drop off).take (n*sz)))
  |some (.ro _ cs)=>some (Nat.ble (off+n*sz) cs.length,(n,(cs.drop off).take (n*sz)))
  |_=>none
 |.nos b n=>match st[b]? with
  |some (.row cs _ _)=>some (Nat.ble (n*sz) cs.length,(n,cs.take (n*sz)))
  |some (.ro _ cs)=>some (Nat.ble (n*sz) cs.length,(n,cs.take (n*sz)))
  |_=>none
 |_=>none
def i3:V→Bool
 |.bool _|.int _ _|.str _|.nilPtr|.nilSlice|.lst .. =>true
 |_=>false
theorem lM{Φ:Frz}{m:List MB}{v:V}{x:Value}(h:i3 v=true)(hx:@real G Φ m v=some x):@ef Φ v=some x:=by
 cases v<;>first|(simp[i3]at h;done)|(simp only[real]at hx;simp only[ef];exact hx)
theorem ow{Φ:Frz}{m:List MB}:∀{l:List V} {x:List Value},l.all i3=true→@ap G Φ m l=some x→@bh Φ l=some x
 |[],x,_,hx=>by simpa only[ap,bh]using hx
 |v::r,x,h,hx=>by
  simp only[List.all_cons,ad]at h;obtain⟨a,b,h1,h2,rfl⟩:=@aj G Φ m _ _ _ hx;simp only[bh,lM h.1 h1,ow h.2 h2]
theorem pc{Φ:Frz}{B:Nat}{W0 w:World}{m:List MB}{st:St}(hr:@Rel G Φ B W0 m st w){sz n:Nat}{v:V}{cs:List V}{x:Value}(hv:cQ st sz v=some (true,(n,cs)))(hl:cs.all i3=true)(hx:@real G Φ m v=some x)(hs:0<sz):
  @real G (Frz.of w) [] (.lst x n cs)=some x:=by
 have slc:∀{b off len:Nat} {ex:Bool} {c z:Nat} {k:Blk},st[b]?=some k→(∃own ds,k=.ro own ds)∨(∃ds t s,k=.row ds t s)→Nat.ble (off+len*sz) k.cs.length=true→((k.cs.drop off).take (len*sz)).all i3=true→
   @real G Φ m (.slice b off len ex c z)=some x→@real G (Frz.of w) [] (.lst x len ((k.cs.drop off).take (len*sz)))=some x:=by
  intro b off len ex c z k hb hk hle hlf hx;have hle:=aw hle;obtain⟨e,cap,he,hcap,hlc,rfl⟩:=@bV G Φ m _ _ _ _ _ _ _ hx;have hbc:co st b off (len*sz)=some ((k.cs.drop off).take (len*sz)):=by simp only[co,hb];rw[if_pos hle]
  obtain⟨e',xs,he',hxs,hlen,hc⟩:=@gj G Φ m B W0 w st hr _ _ _ _ hbc;rw[cp he]at he';cases he';have h0:=gb hr.more _ _ (ow hlf hxs);refine @dq G (Frz.of w) [] _ _ _ _ h0 ?_;by_cases hn:len=0
  ·subst hn;have:xs=[]:=List.eq_nil_of_length_eq_zero (by rw[hlen];simp);exact .inl ⟨_,_,rfl,rfl,this⟩
  ·have hc0:cap≠0:=by omega
   rw[if_neg hc0];have hlv:k.live=true:=by rcases hk with⟨_,_,rfl⟩|⟨_,_,_,rfl⟩<;>rfl
   have hbk:=hr.blk b k e hb (cp he);obtain⟨arr,t,fz,hh⟩:∃arr t fz,w.heap[e.blk]?=some (.cells arr t fz):=by
    rcases hk with⟨_,_,rfl⟩|⟨_,_,_,rfl⟩
    ·obtain⟨_,arr,t,fz,h2,_⟩:=hbk;exact⟨arr,t,fz,h2⟩
    ·obtain⟨_,_,arr,xs,⟨fz,_,h3⟩,_⟩:=hbk;exact⟨arr,_,fz,h3⟩
   refine .inr ⟨e.blk,e.off+off,cap,arr,t,fz,rfl,by omega,hlc,hh,fun i y hi=>?_⟩;have:=hc i y hi;rw[cE,cell_of_row w e.blk _ arr t fz hh]at this;exact this
 cases v with
 |nilSlice=>
  simp only[cQ,af,Prod.mk.injEq]at hv;obtain⟨_,rfl,rfl⟩:=hv;simp only[real,af]at hx;subst hx;exact @dq G (Frz.of w) [] _ _ _ _ rfl (.inl ⟨none,0,rfl,rfl,rfl⟩)
 |lst y k ds=>
  simp only[cQ,af,Prod.mk.injEq]at hv;obtain⟨_,rfl,rfl⟩:=hv;obtain⟨xs,_,rfl,_⟩:=@ed G Φ m _ _ _ _ hx;have:=kp hr.more _ _ hx;simpa only[real]using this
 |slice b off len ex c z=>
  simp only[cQ]at hv;split at hv
  ·rename_i ds t s hb;simp only[af,Prod.mk.injEq]at hv;obtain⟨h1,rfl,rfl⟩:=hv;exact slc hb (.inr ⟨_,_,_,rfl⟩) h1 hl hx
  ·rename_i own ds hb;simp only[af,Prod.mk.injEq]at hv;obtain⟨h1,rfl,rfl⟩:=hv;exact slc hb (.inl ⟨_,_,rfl⟩) h1 hl hx
  ·cases hv
 |nos b len=>
  have go:∀{k:Blk},st[b]?=some k→(∃own ds,k=.ro own ds)∨(∃ds t s,k=.row ds t s)→Nat.ble (len*sz) k.cs.length=true→(k.cs.take (len*sz)).all i3=true→@real G (Frz.of w) [] (.lst x len (k.cs.take (len*sz)))=some x:=by
   intro k hb hk hle hlf;rcases iV hx with⟨rfl,rfl⟩|⟨e,he,h0,hc,rfl⟩
   ·rw[Nat.zero_mul,List.take_zero];exact @dq G (Frz.of w) [] _ _ _ _ rfl (.inl ⟨none,0,rfl,rfl,rfl⟩)
   ·refine slc (off:=0) (ex:=false) (c:=0) (z:=0) hb hk (by rw[Nat.zero_add];exact hle) hlf ?_;simp only[real,he,Bool.false_eq_true,if_false,Nat.sub_zero,if_pos hc];simp
  simp only[cQ]at hv;split at hv
  ·rename_i ds t s hb;simp only[af,Prod.mk.injEq]at hv;obtain⟨h1,rfl,rfl⟩:=hv;exact go hb (.inr ⟨_,_,_,rfl⟩) h1 hl
  ·rename_i own ds hb;simp only[af,Prod.mk.injEq]at hv;obtain⟨h1,rfl,rfl⟩:=hv;exact go hb (.inl ⟨_,_,rfl⟩) h1 hl
  ·cases hv
 |_=>cases hv
def strs(l:List (List UInt8)):List V:=l.map .str
theorem mg:∀{cs:List V},cs.all ar=true→strs (cs.map ab)=cs
 |[],_=>rfl
 |v::r,h=>by
  simp only[List.all_cons,ad]at h;have:=mg h.2;cases v<;>first|(simp[ar]at h;done)|(simp only[strs,List.map_cons,ab]at this ⊢;rw[this])
theorem bD(l:List (List UInt8)):(strs l).all ar=true:=by
 induction l with
 |nil=>rfl
 |cons a r ih=>simp[strs,ar]
theorem ai(l:List (List UInt8)):(strs l).map ab=l:=by
 induction l with
 |nil=>rfl
 |cons a r ih=>simpa[strs,ab]using ih
theorem aE(l:List (List UInt8)):(strs l).length=l.length:=cg ..
theorem isStr_leaf{cs:List V}(h:cs.all ar=true):cs.all i3=true:=by
 rw[List.all_eq_true]at h ⊢;intro v hv;have:=h v hv;cases v<;>first|rfl|simp[ar]at this
theorem br(l:List (List UInt8)):aM (strs l)=true:=by
 induction l with
 |nil=>rfl
 |cons a r ih=>simpa[strs,aM,V.flat]using ih
theorem aO{c:Bool}{a o:V×St}(h:aL [(c,a)]=some o):c=true∧o=a:=by
 cases c with
 |false=>cases h
 |true=>simp only[aL,ae,af]at h;exact⟨rfl,h.symm⟩
def okS(n:Nat)(cs:List V):Bool:=cs.all ar&&(Nat.beq cs.length n&&Nat.ble n 9223372036854775807)
theorem cn{n:Nat}{cs:List V}(h:okS n cs=true):∃l:List (List UInt8),cs=strs l∧n=l.length∧l.length≤9223372036854775807∧cs.map ab=l:=by
 unfold okS at h;simp only[ad]at h;have h2:=aP h.2.1;have h3:=aw h.2.2;exact⟨cs.map ab,(mg h.1).symm,by rw[cg,h2],by rw[cg,h2];exact h3,rfl⟩
theorem dH{l:List (List UInt8)}(h:l.length≤9223372036854775807):okS l.length (strs l)=true:=by
 unfold okS;simp only[ad];exact⟨bD l,by rw[aE];exact a9 _,ag h⟩
theorem bY{α:Type}{s:List α}{i:Nat}(h:s.drop i=[])(hi:i≤s.length):i=s.length:=by
 have:=congrArg List.length h;simp at this;omega
theorem bn{α:Type}{s r:List α}{i:Nat}{c:α}(h:s.drop i=c::r):s[i]?=some c∧s.drop (i+1)=r∧i<s.length:=by
 have hl:i<s.length:=by
  have:=congrArg List.length h;simp at this;omega
 rw[List.drop_eq_getElem_cons hl]at h;injection h with h1 h2
 exact⟨by rw[List.getElem?_eq_getElem hl,h1],h2,hl⟩
theorem fY{l r:List (List UInt8)}{i:Nat}{c:List UInt8}(h:l.drop i=c::r):(strs l).getD (i*1) (.bool false)=.str c∧(i*1).blt (strs l).length=true:=by
 obtain⟨h1,_,h3⟩:=bn h;rw[Nat.mul_one,bX];refine⟨?_,ag (by rw[aE];exact h3)⟩;unfold strs;rw[List.getElem?_map,h1];rfl
def lstS(x:Value)(l:List (List UInt8)):V:=.lst x l.length (strs l)
def bC(st:St)(v:V):Option (Bool×List (List UInt8)):=match cQ st 1 v with
 |some (b,(n,cs))=>some (b&&(cs.all ar&&Nat.beq cs.length n),cs.map ab)
 |none=>none
theorem cB{Φ:Frz}{B:Nat}{W0 w:World}{m:List MB}{st:St}(hr:@Rel G Φ B W0 m st w){v:V}{l:List (List UInt8)}{x:Value}(hv:bC st v=some (true,l))(hx:@real G Φ m v=some x):
  @real G (Frz.of w) [] (lstS x l)=some x:=by
 unfold bC at hv;split at hv
 ·rename_i b n cs hc;simp only[af,Prod.mk.injEq,ad]at hv;obtain⟨⟨rfl,h1,h2⟩,rfl⟩:=hv;have:=pc hr hc (isStr_leaf h1) hx (by omega);unfold lstS;rw[mg h1,cg,aP h2];exact this
 ·cases hv
end
section
variable [G:Glob] [Φ:Frz]
variable {P:Program} {ro:Option Nat} {k:Nat}
abbrev Sub:=Fr→St→Option (Bool×(Fr×St))
def SubOk(sub:Sub):Prop:=∀f st f' st',sub f st=some (true,(f',st'))→Less f' f∧st'=st
def oO(p0:Nat)(sub:Sub)(lk:Nat→Trans→Trans):Nat→Trans→Trans:=fun p body f st Q=>bif Nat.beq p p0 then(match sub f st with
 |some (c,(f',st'))=>must c (lk p body f' st' Q)
 |none=>lk p body f st Q)else lk p body f st Q
theorem eD{p0:Nat}{sub:Sub}(hs:SubOk sub){lk:Nat→Trans→Trans}:∀(c:Code) (p:Nat),eb P ro k lk p c→eb P ro k (oO p0 sub lk) p c
 |.seq a b,p,h=>⟨eD hs a _ h.1,eD hs b _ h.2⟩
 |.cond _ a b,p,h=>⟨eD hs a _ h.1,eD hs b _ h.2⟩
 |.block _ c,p,h=>eD hs c _ h
 |.scope c,p,h=>eD hs c _ h
 |.loop c,p,h=>by
  refine⟨eD hs c _ h.1,fun body hb f st Q hq=>?_⟩;unfold oO at hq;rcases aU hq with⟨_,hq⟩|⟨_,hq⟩
  ·split at hq
   ·rename_i c f' st' hsub;obtain⟨h1,h2⟩:=aX hq;subst h1;obtain⟨h3,rfl⟩:=hs f st f' st' hsub;exact(h.2 body hb f' _ Q h2).less h3
   ·exact h.2 body hb f st Q hq
  ·exact h.2 body hb f st Q hq
 |.skip,_,_|.label _,_,_|.ret,_,_|.exit _,_,_|.region ..,_,_|.rangeFunc ..,_,_|.goto _,_,_|.refuse _,_,_=>trivial
theorem fnSub{g:FuncId}{p0:Nat}{sub:Sub}(hs:SubOk sub){lk:Nat→Trans→Trans}(hl:aQ P k lk g):aQ P k (oO p0 sub lk) g:=by
 unfold aQ at hl ⊢;split at hl
 ·rename_i fn hf;split at hl
  ·rename_i c hb;exact eD hs c 1 hl
  ·trivial
 ·trivial
def subRow(t tl n:Nat)(ex:List V→List V)(ok:List V→Bool):Sub:=fun f st=>match f.T.get t,f.T.get tl with
 |some (.slice b 0 m false 0 0),some (.int .i64 L)=>match st[b]? with
  |some (.row ds ty sz)=>some (Nat.beq m n&&(ok ds&&(L==(n:Int))),(⟨f.sz,(f.T.put t (.slice b 0 n false 0 0)).put tl (.int .i64 n),f.defs⟩,st.set b (.row (ex ds) ty sz)))
  |_=>none
 |_,_=>none
theorem subRow_ok{t tl n:Nat}{ex:List V→List V}{ok:List V→Bool}(h:∀ds,ok ds=true→ex ds=ds):SubOk (subRow t tl n ex ok):=by
 intro f st f' st' hs;unfold subRow at hs;split at hs
 ·rename_i b m L h1 h2;split at hs
  ·rename_i ds ty sz hb;simp only[af,Prod.mk.injEq,ad]at hs;obtain⟨⟨c1,c2,c3⟩,rfl,rfl⟩:=hs;have c1:=aP c1;have c3:=beq_iff_eq.1 c3;subst c1;refine⟨fun mm a hA=>⟨⟨hA.tmps.1,fun i v hv=>?_⟩,hA.defers⟩,?_⟩
   ·rcases Tr.get_put hv with⟨rfl,rfl⟩|⟨_,hv⟩
    ·rw[←c3];exact hA.tmps.2 _ _ h2
    ·rcases Tr.get_put hv with⟨rfl,rfl⟩|⟨_,hv⟩
     ·exact hA.tmps.2 _ _ h1
     ·exact hA.tmps.2 _ _ hv
   ·rw[h ds c2];have hlt:=(List.getElem?_eq_some_iff.1 hb).1;apply List.ext_getElem?;intro i;by_cases hi:i=b
    ·subst hi;rw[List.getElem?_set_self hlt,hb]
    ·rw[List.getElem?_set_ne (fun e=>hi e.symm)]
  ·cases hs
 ·cases hs
mutual
def nA:V→List Nat
 |.ptr b _=>[b]
 |.slice b _ _ _ _ _=>[b]
 |.map b=>[b]
 |.nos b _=>[b]
 |.iface _ v=>nA v
 |.func _ fs cs=>nB fs++nB cs
 |.agg cs=>nB cs
 |.tuple cs=>nB cs
 |_=>[]
def nB:List V→List Nat
 |[]=>[]
 |v::r=>nA v++nB r
end
def memN(i:Nat):List Nat→Bool
 |[]=>false
 |j::r=>Nat.beq i j||memN i r
def visB(σ:List Nat):Nat→St→St
 |_,[]=>[]
 |i,b::r=>(bif memN i σ then b else .dead)::visB σ (i+1) r
def vis(v:V)(st:St):St:=visB (nA v) 0 st
theorem ma(σ:List Nat):∀(st:St) (i j:Nat) (b:Blk),(visB σ i st)[j]?=some b→b=.dead∨st[j]?=some b
 |[],i,j,b,h=>by simp[visB]at h
 |c::r,i,0,b,h=>by
  simp only[visB,ce,af]at h;cases hm:memN i σ with
  |true=>rw[hm,ae]at h;exact .inr (by simp[h])
  |false=>rw[hm,ak]at h;exact .inl h.symm
 |c::r,i,j+1,b,h=>by
  simp only[visB,List.getElem?_cons_succ]at h;rcases ma σ r (i+1) j b h with h|h
  ·exact .inl h
  ·exact .inr (by simpa using h)
theorem fits_vis{k:Nat}{vs:List V}{s st:St}{l:List (Option V)}{u:V}(h:Fits k vs s l (vis u st)):Fits k vs s l st:=by
 obtain⟨σ,us,h1,h2,h3,h4,h5⟩:=h;refine⟨σ,us,h1,h2,⟨h3.1,fun i c b hi hb hd=>?_⟩,h4,h5⟩;obtain⟨b',g1,g2⟩:=h3.2 i c b hi hb hd;refine⟨b',g1,?_⟩;rcases ma _ _ _ _ _ g2 with rfl|g
 ·exfalso;rcases g1 with g1|⟨_,_,_,_,_,_,_,_,_,_,_,g1,_⟩
  ·cases b<;>simp only[renB]at g1<;>first|(exact hd rfl)|(split at g1<;>cases g1)|cases g1
  ·cases g1
 ·exact g
def visD(v:V)(st:St):St:=visB (nA v++(nA v).flatMap fun b=>match st[b]? with
 |some k=>nB k.cs
 |none=>[]) 0 st
theorem sD{k:Nat}{vs:List V}{s st:St}{l:List (Option V)}{u:V}(h:Fits k vs s l (visD u st)):Fits k vs s l st:=by
 obtain⟨σ,us,h1,h2,h3,h4,h5⟩:=h;refine⟨σ,us,h1,h2,⟨h3.1,fun i c b hi hb hd=>?_⟩,h4,h5⟩;obtain⟨b',g1,g2⟩:=h3.2 i c b hi hb hd;refine⟨b',g1,?_⟩;rcases ma _ _ _ _ _ g2 with rfl|g
 ·exfalso;rcases g1 with g1|⟨_,_,_,_,_,_,_,_,_,_,_,g1,_⟩
  ·cases b<;>simp only[renB]at g1<;>first|(exact hd rfl)|(split at g1<;>cases g1)|cases g1
  ·cases g1
 ·exact g
theorem visN_ok{T:Tab}{lim n:Nat}(hm:P.follows .mixedOrders=true)(hT:TabOk3 P T){g:FuncId}{args:List V}{v:V}{s:St}(h:runM P T lim n g args (fun u st=>Fits 0 [v] s [some u] (visD u st))):FnSat P g args [] (Is (v,s)):=
 FnSat.fits ((dX hm hT h).mono fun u st hq=>sD hq)
def rowIx:Nat→St→Option Nat
 |_,[]=>none
 |i,.row _ _ _::_=>some i
 |i,_::r=>rowIx (i+1) r
theorem rC:∀(st:St) (i j:Nat),rowIx i st=some j→∃k cs t sz,j=i+k∧st[k]?=some (.row cs t sz)
 |[],i,j,h=>by cases h
 |.row cs t sz::r,i,j,h=>by
  simp only[rowIx,af]at h;exact⟨0,cs,t,sz,by omega,rfl⟩
 |.dead::r,i,j,h|.ro ..::r,i,j,h|.defd::r,i,j,h|.mpu::r,i,j,h|.mp _::r,i,j,h|.sit ..::r,i,j,h|.loop ..::r,i,j,h=>by
  simp only[rowIx]at h;obtain⟨k,cs,t,sz,h1,h2⟩:=rC r (i+1) j h;exact⟨k+1,cs,t,sz,by omega,by simpa using h2⟩
def visF(v:V)(st:St):St:=match nA v with
 |[]=>match rowIx 0 st with
  |some b=>List.replicate b .dead++[.ro true []]
  |none=>[]
 |_=>vis v st
theorem visF_get{v:V}{st:St}{b:Nat}{c:Blk}(h:(visF v st)[b]?=some c):c=.dead∨st[b]?=some c∨(c=.ro true []∧∃cs t sz,st[b]?=some (.row cs t sz)):=by
 unfold visF at h;split at h
 ·split at h
  ·rename_i j hj;obtain⟨k,cs,t,sz,h1,h2⟩:=rC st 0 j hj;rcases Nat.lt_trichotomy b j with hb|hb|hb
   ·rw[List.getElem?_append_left (by simpa using hb),List.getElem?_replicate,if_pos hb]at h;exact .inl (by cases h;rfl)
   ·subst hb;rw[List.getElem?_append_right (by simp),List.length_replicate,Nat.sub_self]at h;simp only[ce,af]at h;exact .inr (.inr ⟨h.symm,cs,t,sz,by rw[show b=k by omega];exact h2⟩)
   ·rw[List.getElem?_eq_none (by simp;omega)]at h;cases h
  ·simp at h
 ·rcases ma _ _ _ _ _ h with h|h
  ·exact .inl h
  ·exact .inr (.inl h)
theorem sC{k:Nat}{vs:List V}{s st:St}{l:List (Option V)}{u:V}(hs:∀b∈s,∃cs t sz,b=Blk.row cs t sz)(h:Fits k vs s l (visF u st)):Fits k vs s l st:=by
 obtain⟨σ,us,h1,h2,h3,h4,h5⟩:=h;refine⟨σ,us,h1,h2,⟨h3.1,fun i c b hi hb hd=>?_⟩,h4,h5⟩;obtain⟨b',g1,g2⟩:=h3.2 i c b hi hb hd;refine⟨b',g1,?_⟩;obtain⟨cs,t,sz,rfl⟩:=hs b (List.mem_of_getElem? hb);rcases visF_get g2 with rfl|g|⟨rfl,_⟩
 ·exfalso;rcases g1 with g1|⟨_,_,_,_,_,_,_,_,_,_,_,g1,_⟩
  ·simp only[renB]at g1;split at g1<;>cases g1
  ·cases g1
 ·exact g
 ·exfalso;rcases g1 with g1|⟨_,_,_,_,_,_,_,_,_,_,_,g1,_⟩
  ·simp only[renB]at g1;split at g1<;>cases g1
  ·cases g1
theorem visF_rel{B:Nat}{W0 w:World}{m:List MB}{st:St}{v:V}(h:Rel B W0 m st w){b:Nat}(hb:(visF v st)[b]?=some (.ro true [])):∃e,e.hole=false∧Rel B W0 [e] [.ro true []] w:=by
 have key:∃e:MB,e.hole=false∧BlkOk B [e] w e (.ro true []):=by
  rcases visF_get hb with hc|hc|⟨_,cs,t,sz,hc⟩
  ·cases hc
  ·obtain⟨e,he,hk⟩:=h.at hc;obtain⟨g1,arr,t,fz,g2,_⟩:=hk;exact⟨⟨e.blk,e.off,e.cap,false⟩,rfl,g1,arr,t,fz,g2,fun i v hv=>by simp at hv⟩
  ·obtain⟨e,he,hk⟩:=h.at hc;obtain⟨g1,_,arr,xs,⟨fz,_,g2⟩,_⟩:=hk;exact⟨⟨e.blk,e.off,e.cap,false⟩,rfl,fun _=>g1,arr,t,fz,g2,fun i v hv=>by simp at hv⟩
 obtain⟨e,he,hk⟩:=key;refine⟨e,he,rfl,h.base,h.below,fun i c d hi hd=>?_,fun i j c c' d d' _ h1 h2 _ _ _ _=>?_,h.glob⟩
 ·match i,hi,hd with
  |0,hi,hd=>
   simp only[ce,af]at hi hd;subst hi hd;exact hk
  |i+1,hi,hd=>simp at hi
 ·match i,h1 with
  |0,h1=>
   simp only[ce,af]at h1;subst h1;cases h2
  |i+1,h1=>simp at h1
theorem visM_ok{T:Tab}{lim n:Nat}(hm:P.follows .mixedOrders=true)(hT:TabOk3 P T){g:FuncId}{args:List V}{v:V}{s:St}(h:runM P T lim n g args (fun u st=>Fits 0 [v] s [some u] (vis u st))):FnSat P g args [] (Is (v,s)):=
 FnSat.fits ((dX hm hT h).mono fun u st hq=>fits_vis hq)
end
end Go.Vm
namespace Go.Vm
open Go.RowKit
inductive DD where
 |int (k:IntKind) (n:Int)
 |str (l:List UInt8)
 |bool (b:Bool)
 |lst (x:Value) (l:List DD)
 |agg (l:List DD)
mutual
def il:DD→List V
 |.int k n=>[.int k n]
 |.str l=>[.str l]
 |.bool b=>[.bool b]
 |.lst x l=>[.lst x l.length (cX l)]
 |.agg l=>cX l
def cX:List DD→List V
 |[]=>[]
 |d::r=>il d++cX r
end
theorem j7:∀(a b:List DD),cX (a++b)=cX a++cX b
 |[],b=>rfl
 |d::r,b=>by simp only[List.cons_append,cX,j7 r b,List.append_assoc]
inductive Sh where
 |int (k:IntKind)
 |str
 |bool
 |lst (e:Sh)
 |agg (fs:List Sh)
def jy(P:Program)(chk:Sh→TypeId→Bool):List Sh→List Field→Nat→Nat→Bool
 |[],[],off,tot=>Nat.beq off tot
 |s::r,g::gs,off,tot=>Nat.beq g.offset off&&(chk s g.type&&jy P chk r gs (off+P.cellsOf g.type) tot)
 |_,_,_,_=>false
def shOk(P:Program):Nat→Sh→TypeId→Bool
 |0,_,_=>false
 |f+1,s,t=>match s,P.underlying t with
  |.int k,some (.int k')=>decide (k'=k)&&Nat.beq (P.cellsOf t) 1
  |.str,some .string=>Nat.beq (P.cellsOf t) 1
  |.bool,some .bool=>Nat.beq (P.cellsOf t) 1
  |.lst e,some (.slice te)=>Nat.beq (P.cellsOf t) 1&&(Nat.blt 0 (P.cellsOf te)&&shOk P f e te)
  |.agg ss,some (.struct fs)=>jy P (shOk P f) ss fs.toList 0 (P.cellsOf t)
  |_,_=>false
def All2{α β:Type}(R:α→β→Prop):List α→List β→Prop
 |[],[]=>True
 |a::r,b::s=>R a b∧All2 R r s
 |_,_=>False
theorem dp{α β:Type}{R:α→β→Prop}{a:α}{r:List α}{l:List β}(h:All2 R (a::r) l):∃b s,l=b::s∧R a b∧All2 R r s:=by
 cases l with
 |nil=>exact h.elim
 |cons b s=>exact⟨b,s,rfl,h.1,h.2⟩
theorem qN{α β:Type}{R:α→β→Prop}{l:List β}(h:All2 R [] l):l=[]:=by
 cases l with
 |nil=>rfl
 |cons b s=>exact h.elim
def OfSh:Nat→Sh→DD→Prop
 |0,_,_=>False
 |f+1,s,d=>match s with
  |.int k=>∃n,d=.int k n∧(Lit.int k n).wf=true
  |.str=>∃l,d=.str l∧l.length≤maxLen
  |.bool=>∃b,d=.bool b
  |.lst e=>∃x l,d=.lst x l∧l.length≤maxLen∧∀y∈l,OfSh f e y
  |.agg ss=>∃l,d=.agg l∧All2 (OfSh f) ss l
section
variable [G:Glob]
theorem iH{Φ:Frz}:∀{l l':List V} {x x':List Value},@bh Φ l=some x→@bh Φ l'=some x'→@bh Φ (l++l')=some (x++x')
 |[],l',x,x',h,h'=>by simp only[bh,af]at h;subst h;simpa using h'
 |v::r,l',x,x',h,h'=>by
  simp only[bh]at h;cases h1:@ef Φ v with
  |none=>simp[h1]at h
  |some a=>
   cases h2:@bh Φ r with
   |none=>simp[h1,h2]at h
   |some b=>
    simp only[h1,h2,af]at h;subst h;simp only[List.cons_append,bh,h1,iH h2 h']
theorem pB{Φ:Frz}{v:V}{x:Value}(h:@ef Φ v=some x):@bh Φ [v]=some [x]:=by simp only[bh,h]
variable {H:Type} {enc:TypeId×Value→H} {P:Program} {W:World} {base:Nat} {spare:Nat→Bool} {held:Bool}
theorem ofStr{f:Nat}{d:DD}(h:OfSh (f+1) .str d):∃l,d=.str l∧l.length≤maxLen:=h
theorem ofInt{f:Nat}{k:IntKind}{d:DD}(h:OfSh (f+1) (.int k) d):∃n,d=.int k n∧(Lit.int k n).wf=true:=h
theorem ofBool{f:Nat}{d:DD}(h:OfSh (f+1) .bool d):∃b,d=.bool b:=h
theorem ofLst{f:Nat}{e:Sh}{d:DD}(h:OfSh (f+1) (.lst e) d):∃x l,d=.lst x l∧l.length≤maxLen∧∀y∈l,OfSh f e y:=h
theorem ofAgg{f:Nat}{ss:List Sh}{d:DD}(h:OfSh (f+1) (.agg ss) d):∃l,d=.agg l∧All2 (OfSh f) ss l:=h
theorem strsD:∀(f:Nat) (l:List DD),(∀y∈l,OfSh (f+1) .str y)→∃ls:List (List UInt8),l=ls.map DD.str∧cX l=strs ls
 |f,[],_=>⟨[],rfl,rfl⟩
 |f,d::r,h=>by
  obtain⟨s,hs⟩:=ofStr (h d (by simp));obtain⟨ls,h1,h2⟩:=strsD f r (fun y hy=>h y (by simp[hy]));have hd:=hs.1;subst hd;exact⟨s::ls,by rw[h1];rfl,by simp only[cX,il,h2];rfl⟩
theorem real_agg_mk{Φ:Frz}{m:List MB}{l:List V}{xs:List Value}(h:@ap G Φ m l=some xs):@real G Φ m (.agg l)=some (.agg xs.toArray):=by simp only[real,h]
theorem mD:∀(f:Nat) (s:Sh) (t:TypeId) (n:Nat) (cs:List Value) (x:DataW H×List MemPlace),shOk P f s t=true→DataW.trod enc P W base spare held n t cs=some x→
  ∃d,OfSh f s d∧@bh (Frz.of W) (il d)=some cs
 |0,s,t,n,cs,x,h,_=>by simp[shOk]at h
 |f+1,s,t,n,cs,x,h,ht=>by
  simp only[shOk]at h;split at h
  ·rename_i k k' hu;rw[ad]at h;have hk:=aN h.1;subst hk;obtain⟨m,rfl,_,hw⟩:=DataW.trod_int hu ht;exact⟨.int k' m,⟨m,rfl,hw⟩,rfl⟩
  ·rename_i hu;obtain⟨b,rfl,_,hw⟩:=DataW.trod_string hu ht;refine⟨.str b.data.toList,⟨_,rfl,by simpa using hw⟩,?_⟩;simp[il,bh,ef]
  ·rename_i hu;obtain⟨b,rfl,_⟩:=DataW.trod_bool hu ht;exact⟨.bool b,⟨b,rfl⟩,rfl⟩
  ·rename_i e te hu;simp only[ad]at h;obtain⟨_,hpos,hsh⟩:=h;have hpos:0<P.cellsOf te:=aw hpos;rcases DataW.trod_slice hu ht with⟨rfl,_⟩|⟨a,len,cap,elems,rest,m,_,rfl,_,hb,hl,hm,hlen,hel,_,_⟩
   ·refine⟨.lst (.slice none 0 0) [],⟨_,[],rfl,by simp,by simp⟩,?_⟩;simp only[il,cX,List.length_nil];refine pB ?_;simp only[ef,bh];exact @mI G (Frz.of W) _ _ _ (.inl ⟨none,0,rfl,rfl,rfl⟩)
   ·have each:∀i,i<len→∃cs',W.cells? base (a.add (i*P.cellsOf te)) (P.cellsOf te)=some cs'∧∃y,DataW.trod enc P W base spare held m te cs'=some y:=by
     intro i hi;have:=hel i hi;rw[List.getElem?_eq_getElem (by omega)]at this;obtain⟨cs',h1,h2⟩:=Option.bind_eq_some_iff.1 this;exact⟨cs',h1,_,h2⟩
    have key:∀k,k≤len→∃(l:List DD) (xs:List Value),l.length=k∧(∀y∈l,OfSh f e y)∧@bh (Frz.of W) (cX l)=some xs∧xs.length=k*P.cellsOf te∧∀j y,xs[j]?=some y→W.cell? (a.add j)=some y:=by
     intro k
     induction k with
     |zero=>intro _;exact⟨[],[],rfl,by simp,rfl,by simp,by simp⟩
     |succ k ih=>
      intro hk;obtain⟨l,xs,q1,q2,q3,q4,q5⟩:=ih (by omega);obtain⟨cs',c1,y,c2⟩:=each k (by omega);obtain⟨d,d1,d2⟩:=mD f e te m cs' y hsh c2;obtain⟨_,c3,c4⟩:=World.cells?_some c1;refine⟨l++[d],xs++cs',by simp[q1],?_,?_,?_,?_⟩
      ·intro z hz;rcases List.mem_append.1 hz with hz|hz
       ·exact q2 z hz
       ·rw[List.mem_singleton.1 hz];exact d1
      ·rw[j7];refine iH q3 ?_;simp only[cX,List.append_nil];exact d2
      ·rw[bQ,q4,c3,Nat.add_mul,Nat.one_mul]
      ·intro j z hz;by_cases hj:j<xs.length
       ·rw[List.getElem?_append_left hj]at hz;exact q5 j z hz
       ·rw[List.getElem?_append_right (by omega)]at hz;have hj2:j-xs.length<P.cellsOf te:=by rw[←c3];exact(List.getElem?_eq_some_iff.1 hz).1
        have:=c4 (j-xs.length) hj2;rw[hz]at this;have ha:(a.add (k*P.cellsOf te)).add (j-xs.length)=a.add j:=by
         rw[Addr.add_add];congr 1;omega
        rw[ha]at this;exact this
    obtain⟨l,xs,q1,q2,q3,q4,q5⟩:=key len (Nat.le_refl _);refine⟨.lst (.slice (some a) len cap) l,⟨_,l,rfl,by omega,q2⟩,?_⟩;simp only[il];refine pB ?_;simp only[ef,q3];rw[q1];refine @mI G (Frz.of W) _ _ _ ?_;by_cases h0:len=0
    ·subst h0;have:xs=[]:=List.eq_nil_of_length_eq_zero (by rw[q4];simp);exact .inl ⟨some a,cap,rfl,rfl,this⟩
    ·have hx0:0<xs.length:=by rw[q4];exact Nat.mul_pos (by omega) hpos
     have c0:=q5 0 xs[0] (List.getElem?_eq_getElem hx0);have ha0:a.add 0=a:=by simp[Addr.add]
     rw[ha0]at c0;obtain⟨blk,off,spot⟩:=a;have hspot:spot=none∧∃arr t fz,W.heap[blk]?=some (.cells arr t fz):=by
      unfold World.cell? at c0;split at c0
      ·rename_i c t fz hh;cases spot with
       |none=>exact⟨rfl,c,_,_,hh⟩
       |some _=>simp at c0
      ·cases c0
     obtain⟨rfl,arr,t,fz,hh⟩:=hspot;refine .inr ⟨blk,off,cap,arr,t,fz,rfl,by omega,hl,hh,fun j y hj=>?_⟩;have:=q5 j y hj;rw[@cE G (Frz.of W),cell_of_row W blk _ arr t fz hh]at this;exact this
  ·rename_i ss fs hu;obtain⟨xs,m,_,_,hcl,hxl,hf⟩:=DataW.trod_struct hu ht;have key:∀(ss:List Sh) (gs:List Field) (off:Nat),jy P (shOk P f) ss gs off (P.cellsOf t)=true→off≤cs.length→(∀g∈gs,∃y,DataW.trod enc P W base spare held m g.type ((cs.drop g.offset).take (P.cellsOf g.type))=some y)→
     ∃l,All2 (OfSh f) ss l∧@bh (Frz.of W) (cX l)=some (cs.drop off):=by
    intro ss
    induction ss with
    |nil=>
     intro gs off h1 _ _;cases gs with
     |nil=>
      simp only[jy]at h1;have:=aP h1;exact⟨[],trivial,by rw[List.drop_eq_nil_of_le (by omega)];rfl⟩
     |cons=>simp[jy]at h1
    |cons s r ih=>
     intro gs off h1 ho h2;cases gs with
     |nil=>simp[jy]at h1
     |cons g gs=>
      simp only[jy,ad]at h1;obtain⟨h3,h4,h5⟩:=h1;have h3:=aP h3;obtain⟨y,hy⟩:=h2 g (by simp);obtain⟨d,d1,d2⟩:=mD f s g.type m _ y h4 hy;have hle:off+P.cellsOf g.type≤cs.length:=by
       rw[hcl];have bound:∀(ss:List Sh) (gs:List Field) (o:Nat),jy P (shOk P f) ss gs o (P.cellsOf t)=true→o≤P.cellsOf t:=by
        intro ss
        induction ss with
        |nil=>
         intro gs o h;cases gs with
         |nil=>simp only[jy]at h;have:=aP h;omega
         |cons=>simp[jy]at h
        |cons s r ih=>
         intro gs o h;cases gs with
         |nil=>simp[jy]at h
         |cons g gs=>
          simp only[jy,ad]at h;have:=ih gs _ h.2.2;omega
       exact bound r gs _ h5
      obtain⟨l,l1,l2⟩:=ih gs (off+P.cellsOf g.type) h5 hle (fun z hz=>h2 z (by simp[hz]));refine⟨d::l,⟨d1,l1⟩,?_⟩;have:=iH d2 l2;simp only[cX];rw[this,h3];congr 1;rw[←List.drop_drop,List.take_append_drop]
   obtain⟨l,l1,l2⟩:=key ss fs.toList 0 h (Nat.zero_le _) (fun g hg=>by
    obtain⟨i,hi⟩:=List.mem_iff_getElem?.1 hg;have hlt:=(List.getElem?_eq_some_iff.1 hi).1;have:=hf i g (by simpa using hi);rw[List.getElem?_eq_getElem (by rw[hxl];simpa using hlt)]at this;exact⟨_,this⟩)
   refine⟨.agg l,⟨l,rfl,l1⟩,?_⟩;simpa[il]using l2
  ·cases h
end
end Go.Vm
namespace Go.Vm
open Go.RowKit
structure TL where
 u:Int
 s:Int
 m:Int
 d:List UInt8
 deriving DecidableEq
def TL.cells(r:TL):List V:=[.int .u8 r.u,.int .u8 r.s,.int .u8 r.m,.str r.d]
def tls:List TL→List V
 |[]=>[]
 |r::l=>.int .u8 r.u::.int .u8 r.s::.int .u8 r.m::.str r.d::tls l
def tlD:List V→List TL
 |a::b::c::d::r=>⟨aq a,aq b,aq c,ab d⟩::tlD r
 |_=>[]
def isTl:List V→Bool
 |[]=>true
 |a::b::c::d::r=>ao .u8 a&&(ao .u8 b&&(ao .u8 c&&(ar d&&isTl r)))
 |_=>false
theorem ci:∀l:List TL,tlD (tls l)=l
 |[]=>rfl
 |r::l=>by simp only[tls,tlD,ci l,aq,ab]
theorem i4:∀l:List TL,isTl (tls l)=true
 |[]=>rfl
 |r::l=>by simp only[tls,isTl,i4 l,ao,ar,decide_true,bv]
theorem qk{k:IntKind}{v:V}(h:ao k v=true):v=.int k (aq v):=by
 cases v<;>first|(cases h;done)|(simp only[ao,decide_eq_true_eq]at h;subst h;rfl)
theorem isStr_of{v:V}(h:ar v=true):v=.str (ab v):=by
 cases v<;>first|(cases h;done)|rfl
theorem s6:∀cs:List V,isTl cs=true→tls (tlD cs)=cs
 |[],_=>rfl
 |[_],h=>by cases h
 |[_,_],h=>by cases h
 |[_,_,_],h=>by cases h
 |a::b::c::d::r,h=>by
  simp only[isTl,ad]at h;obtain⟨h1,h2,h3,h4,h5⟩:=h;simp only[tlD,tls];rw[s6 r h5,←qk h1,←qk h2,←qk h3,←isStr_of h4]
theorem dV:∀l:List TL,(tls l).length=4*l.length
 |[]=>rfl
 |r::l=>by simp only[tls,bi,dV l];omega
theorem tls_drop:∀(i:Nat) (l:List TL),(tls l).drop (4*i)=tls (l.drop i)
 |0,l=>rfl
 |i+1,[]=>by simp[tls]
 |i+1,r::l=>by
  rw[show 4*(i+1)=4*i+1+1+1+1 by omega];simp only[tls,List.drop_succ_cons];exact tls_drop i l
theorem tls_take:∀(i:Nat) (l:List TL),(tls l).take (4*i)=tls (l.take i)
 |0,l=>by simp[tls]
 |i+1,[]=>by simp[tls]
 |i+1,r::l=>by
  rw[show 4*(i+1)=4*i+1+1+1+1 by omega];simp only[tls,List.take_succ_cons];rw[tls_take i l]
theorem tls_at{l r:List TL}{i j:Nat}{c:TL}(h:l.drop i=c::r)(hj:j<4):(tls l)[4*i+j]?=c.cells[j]?∧4*i+j<(tls l).length:=by
 have h1:=tls_drop i l;rw[h]at h1;have h2:(tls l)[4*i+j]?=(tls (c::r))[j]?:=by rw[←h1,List.getElem?_drop]
 have hl:i<l.length:=by
  have:=congrArg List.length h;simp at this;omega
 refine⟨?_,by rw[dV];omega⟩;rw[h2]
 match j,hj with
 |0,_|1,_|2,_|3,_=>rfl
theorem tls_leaf:∀l:List TL,(tls l).all i3=true
 |[]=>rfl
 |r::l=>by simp only[tls,List.all_cons,i3,tls_leaf l,bv]
theorem me:∀l:List TL,aM (tls l)=true
 |[]=>rfl
 |r::l=>by simp only[tls,aM,V.flat,me l,bv]
def lstT(x:Value)(l:List TL):V:=.lst x l.length (tls l)
def okT(n:Nat)(cs:List V):Bool:=isTl cs&&(Nat.beq (tlD cs).length n&&Nat.ble n 9223372036854775807)
theorem fL{n:Nat}{cs:List V}(h:okT n cs=true):∃l:List TL,cs=tls l∧n=l.length∧l.length≤9223372036854775807∧tlD cs=l:=by
 unfold okT at h;simp only[ad]at h;have h2:=aP h.2.1;have h3:=aw h.2.2;exact⟨tlD cs,(s6 cs h.1).symm,h2.symm,by rw[h2];exact h3,rfl⟩
theorem ji{l:List TL}(h:l.length≤9223372036854775807):okT l.length (tls l)=true:=by
 unfold okT;rw[i4,ci,a9,ag h];rfl
section
variable [G:Glob]
def eu(st:St)(v:V):Option (Bool×List TL):=match cQ st 4 v with
 |some (b,(n,cs))=>some (b&&(isTl cs&&Nat.beq (tlD cs).length n),tlD cs)
 |none=>none
theorem iR{Φ:Frz}{B:Nat}{W0 w:World}{m:List MB}{st:St}(hr:@Rel G Φ B W0 m st w){v:V}{l:List TL}{x:Value}(hv:eu st v=some (true,l))(hx:@real G Φ m v=some x):
  @real G (Frz.of w) [] (lstT x l)=some x:=by
 unfold eu at hv;split at hv
 ·rename_i b n cs hc;simp only[af,Prod.mk.injEq,ad]at hv;obtain⟨⟨rfl,h1,h2⟩,rfl⟩:=hv;have hl:cs.all i3=true:=by rw[←s6 cs h1];exact tls_leaf _
  have:=pc hr hc hl hx (by omega);unfold lstT;rw[s6 cs h1,aP h2];exact this
 ·cases hv
end
end Go.Vm
namespace Go.Vm
open Go.RowKit
variable [G:Glob]
def tlSh:Sh:=.agg [.int .u8,.int .u8,.int .u8,.str]
end Go.Vm
namespace Go.Vm
open Go.RowKit
structure CR where
 k:List UInt8
 g:List UInt8
 l:List (List UInt8)
 f:Int
 u:Int
 ca:Bool
 deriving DecidableEq
structure CX where
 c:CR
 x:Value
def CX.cells(y:CX):List V:=[.str y.c.k,.str y.c.g,lstS y.x y.c.l,.int .i64 y.c.f,.int .i64 y.c.u,.bool y.c.ca]
def crs:List CX→List V
 |[]=>[]
 |y::r=>.str y.c.k::.str y.c.g::lstS y.x y.c.l::.int .i64 y.c.f::.int .i64 y.c.u::.bool y.c.ca::crs r
section
variable [G:Glob]
theorem viewC_gen{Φ:Frz}{B:Nat}{W0 w:World}{m:List MB}{st:St}(hr:@Rel G Φ B W0 m st w){sz n:Nat}{v:V}{cs:List V}{x:Value}(hv:cQ st sz v=some (true,(n,cs)))(hx:@real G Φ m v=some x)(hs:0<sz):
  ∃xs,@ap G Φ m cs=some xs∧∀cs',@bh (Frz.of w) cs'=some xs→@real G (Frz.of w) [] (.lst x n cs')=some x:=by
 have slc:∀{b off len:Nat} {ex:Bool} {c z:Nat} {k:Blk},st[b]?=some k→(∃own ds,k=.ro own ds)∨(∃ds t s,k=.row ds t s)→Nat.ble (off+len*sz) k.cs.length=true→
   @real G Φ m (.slice b off len ex c z)=some x→∃xs,@ap G Φ m ((k.cs.drop off).take (len*sz))=some xs∧∀cs',@bh (Frz.of w) cs'=some xs→@real G (Frz.of w) [] (.lst x len cs')=some x:=by
  intro b off len ex c z k hb hk hle hx;have hle:=aw hle;obtain⟨e,cap,he,hcap,hlc,rfl⟩:=@bV G Φ m _ _ _ _ _ _ _ hx;have hbc:co st b off (len*sz)=some ((k.cs.drop off).take (len*sz)):=by simp only[co,hb];rw[if_pos hle]
  obtain⟨e',xs,he',hxs,hlen,hc⟩:=@gj G Φ m B W0 w st hr _ _ _ _ hbc;rw[cp he]at he';cases he';refine⟨xs,hxs,fun cs' h0=>?_⟩;refine @dq G (Frz.of w) [] _ _ _ _ h0 ?_;by_cases hn:len=0
  ·subst hn;have:xs=[]:=List.eq_nil_of_length_eq_zero (by rw[hlen];simp);exact .inl ⟨_,_,rfl,rfl,this⟩
  ·have hc0:cap≠0:=by omega
   rw[if_neg hc0];have hlv:k.live=true:=by rcases hk with⟨_,_,rfl⟩|⟨_,_,_,rfl⟩<;>rfl
   have hbk:=hr.blk b k e hb (cp he);obtain⟨arr,t,fz,hh⟩:∃arr t fz,w.heap[e.blk]?=some (.cells arr t fz):=by
    rcases hk with⟨_,_,rfl⟩|⟨_,_,_,rfl⟩
    ·obtain⟨_,arr,t,fz,h2,_⟩:=hbk;exact⟨arr,t,fz,h2⟩
    ·obtain⟨_,_,arr,xs,⟨fz,_,h3⟩,_⟩:=hbk;exact⟨arr,_,fz,h3⟩
   refine .inr ⟨e.blk,e.off+off,cap,arr,t,fz,rfl,by omega,hlc,hh,fun i y hi=>?_⟩;have:=hc i y hi;rw[cE,cell_of_row w e.blk _ arr t fz hh]at this;exact this
 cases v with
 |nilSlice=>
  simp only[cQ,af,Prod.mk.injEq]at hv;obtain⟨_,rfl,rfl⟩:=hv;simp only[real,af]at hx;subst hx;exact⟨[],rfl,fun cs' h0=>@dq G (Frz.of w) [] _ _ _ _ h0 (.inl ⟨none,0,rfl,rfl,rfl⟩)⟩
 |lst y k ds=>
  simp only[cQ,af,Prod.mk.injEq]at hv;obtain⟨_,rfl,rfl⟩:=hv;obtain⟨xs,h0,rfl,hl⟩:=@ed G Φ m _ _ _ _ hx;exact⟨xs,@fU G Φ m _ _ h0,fun cs' h1=>@dq G (Frz.of w) [] _ _ _ _ h1 (hl.more hr.more)⟩
 |slice b off len ex c z=>
  simp only[cQ]at hv;split at hv
  ·rename_i ds t s hb;simp only[af,Prod.mk.injEq]at hv;obtain⟨h1,rfl,rfl⟩:=hv;exact slc hb (.inr ⟨_,_,_,rfl⟩) h1 hx
  ·rename_i own ds hb;simp only[af,Prod.mk.injEq]at hv;obtain⟨h1,rfl,rfl⟩:=hv;exact slc hb (.inl ⟨_,_,rfl⟩) h1 hx
  ·cases hv
 |nos b len=>
  have go:∀{k:Blk},st[b]?=some k→(∃own ds,k=.ro own ds)∨(∃ds t s,k=.row ds t s)→Nat.ble (len*sz) k.cs.length=true→∃xs,@ap G Φ m (k.cs.take (len*sz))=some xs∧∀cs',@bh (Frz.of w) cs'=some xs→@real G (Frz.of w) [] (.lst x len cs')=some x:=by
   intro k hb hk hle;rcases iV hx with⟨rfl,rfl⟩|⟨e,he,h0,hc,rfl⟩
   ·rw[Nat.zero_mul,List.take_zero];exact⟨[],rfl,fun cs' h0=>@dq G (Frz.of w) [] _ _ _ _ h0 (.inl ⟨none,0,rfl,rfl,rfl⟩)⟩
   ·refine slc (off:=0) (ex:=false) (c:=0) (z:=0) hb hk (by rw[Nat.zero_add];exact hle) ?_;simp only[real,he,Bool.false_eq_true,if_false,Nat.sub_zero,if_pos hc];simp
  simp only[cQ]at hv;split at hv
  ·rename_i ds t s hb;simp only[af,Prod.mk.injEq]at hv;obtain⟨h1,rfl,rfl⟩:=hv;exact go hb (.inr ⟨_,_,_,rfl⟩) h1
  ·rename_i own ds hb;simp only[af,Prod.mk.injEq]at hv;obtain⟨h1,rfl,rfl⟩:=hv;exact go hb (.inl ⟨_,_,rfl⟩) h1
  ·cases hv
 |_=>cases hv
def nmD(st:St)(v:V):List (List UInt8):=match bC st v with
 |some (_,l)=>l
 |none=>[]
def nmOk(st:St)(v:V):Bool:=match bC st v with
 |some (b,l)=>b&&Nat.ble l.length 9223372036854775807
 |none=>false
def crD(st:St):List V→List CR
 |a::b::c::d::e::f::r=>⟨ab a,ab b,nmD st c,aq d,aq e,ew f⟩::crD st r
 |_=>[]
def isCg(p:V→Bool):List V→Bool
 |[]=>true
 |a::b::c::d::e::f::r=>ar a&&(ar b&&(p c&&(ao .i64 d&&(ao .i64 e&&(de f&&isCg p r)))))
 |_=>false
def isCr(st:St)(cs:List V):Bool:=isCg (nmOk st) cs
def nmZ(c:V):Bool:=iI c&&nmOk [] c
def isCz(cs:List V):Bool:=isCg nmZ cs
theorem nH{p q:V→Bool}(h:∀v,p v=true→q v=true):∀cs:List V,isCg p cs=true→isCg q cs=true
 |[],_=>rfl
 |[_],h1=>by cases h1
 |[_,_],h1=>by cases h1
 |[_,_,_],h1=>by cases h1
 |[_,_,_,_],h1=>by cases h1
 |[_,_,_,_,_],h1=>by cases h1
 |a::b::c::d::e::f::r,h1=>by
  simp only[isCg,ad]at h1 ⊢;obtain⟨g1,g2,g3,g4,g5,g6,g7⟩:=h1;exact⟨g1,g2,h c g3,g4,g5,g6,nH h r g7⟩
theorem mR{k:IntKind}{v:V}(h:ao k v=true):∃n,v=.int k n:=by
 cases v<;>simp[ao]at h;subst h;exact⟨_,rfl⟩
theorem mP{v:V}(h:ar v=true):∃n,v=.str n:=by
 cases v<;>simp[ar]at h;exact⟨_,rfl⟩
theorem sq{v:V}(h:de v=true):∃n,v=.bool n:=by
 cases v<;>simp[de]at h;exact⟨_,rfl⟩
theorem crD_ok{Φ:Frz}{B:Nat}{W0 w:World}{m:List MB}{st:St}(hr:@Rel G Φ B W0 m st w):∀(cs:List V) (xs:List Value),isCr st cs=true→@ap G Φ m cs=some xs→
  ∃L:List CX,L.map (·.c)=crD st cs∧@bh (Frz.of w) (crs L)=some xs∧∀y∈L,y.c.l.length≤9223372036854775807
 |[],xs,_,hx=>by simp only[ap,af]at hx;subst hx;exact⟨[],rfl,rfl,by simp⟩
 |[_],_,h,_=>by cases h
 |[_,_],_,h,_=>by cases h
 |[_,_,_],_,h,_=>by cases h
 |[_,_,_,_],_,h,_=>by cases h
 |[_,_,_,_,_],_,h,_=>by cases h
 |a::b::c::d::e::f::r,xs,h,hx=>by
  simp only[isCr,isCg,ad]at h;obtain⟨h1,h2,h3,h4,h5,h6,h7⟩:=h;obtain⟨k,rfl⟩:=mP h1;obtain⟨g,rfl⟩:=mP h2;obtain⟨i,rfl⟩:=mR h4;obtain⟨j,rfl⟩:=mR h5;obtain⟨t,rfl⟩:=sq h6;obtain⟨x0,r0,q0,hx0,e_0⟩:=@aj G Φ m _ _ _ hx;obtain⟨x1,r1,q1,hx1,e_1⟩:=@aj G Φ m _ _ _ hx0;obtain⟨x2,r2,q2,hx2,e_2⟩:=@aj G Φ m _ _ _ hx1;obtain⟨x3,r3,q3,hx3,e_3⟩:=@aj G Φ m _ _ _ hx2;obtain⟨x4,r4,q4,hx4,e_4⟩:=@aj G Φ m _ _ _ hx3;obtain⟨x5,r5,q5,hx5,e_5⟩:=@aj G Φ m _ _ _ hx4;subst e_5 e_4 e_3 e_2 e_1 e_0;obtain⟨L,e1,e2,e3⟩:=crD_ok hr r r5 h7 hx5;unfold nmOk at h3;split at h3
  ·rename_i bb l hl;rw[ad]at h3;obtain⟨rfl,h3⟩:=h3;have h0:=cB hr hl q2;have hn:nmD st c=l:=by unfold nmD;rw[hl]
   refine⟨⟨⟨k,g,l,i,j,t⟩,x2⟩::L,?_,?_,?_⟩
   ·simp only[List.map_cons,e1,crD,hn,ab,aq,ew]
   ·simp only[real,af]at q0 q1 q3 q4 q5;subst q0 q1 q3 q4 q5;have h00:@ef (Frz.of w) (lstS x2 l)=some x2:=lM rfl h0;simp only[crs,bh,h00,e2];rfl
   ·intro y hy;rcases List.mem_cons.1 hy with rfl|hy
    ·exact aw h3
    ·exact e3 y hy
  ·cases h3
theorem m6(st:St){p:V→Bool}:∀cs:List V,isCg p cs=true→cs.length=6*(crD st cs).length
 |[],_=>rfl
 |[_],h=>by cases h
 |[_,_],h=>by cases h
 |[_,_,_],h=>by cases h
 |[_,_,_,_],h=>by cases h
 |[_,_,_,_,_],h=>by cases h
 |a::b::c::d::e::f::r,h=>by
  simp only[isCg,ad]at h;have:=m6 st r h.2.2.2.2.2.2;simp only[crD,bi,this];omega
theorem qE(st:St){p:V→Bool}:∀(i:Nat) (cs:List V),isCg p cs=true→crD st (cs.drop (i*6))=(crD st cs).drop i∧isCg p (cs.drop (i*6))=true
 |0,cs,h=>by simpa using h
 |i+1,[],_=>by simp[crD,isCg]
 |i+1,[_],h=>by cases h
 |i+1,[_,_],h=>by cases h
 |i+1,[_,_,_],h=>by cases h
 |i+1,[_,_,_,_],h=>by cases h
 |i+1,[_,_,_,_,_],h=>by cases h
 |i+1,a::b::c::d::e::f::r,h=>by
  simp only[isCg,ad]at h;rw[show(i+1)*6=i*6+1+1+1+1+1+1 by omega];simp only[List.drop_succ_cons,crD];exact qE st i r h.2.2.2.2.2.2
theorem j6(st:St){p:V→Bool}:∀(i:Nat) (cs:List V),isCg p cs=true→crD st (cs.take (i*6))=(crD st cs).take i∧isCg p (cs.take (i*6))=true
 |0,cs,h=>by simp[crD,isCg]
 |i+1,[],_=>by simp[crD,isCg]
 |i+1,[_],h=>by cases h
 |i+1,[_,_],h=>by cases h
 |i+1,[_,_,_],h=>by cases h
 |i+1,[_,_,_,_],h=>by cases h
 |i+1,[_,_,_,_,_],h=>by cases h
 |i+1,a::b::c::d::e::f::r,h=>by
  simp only[isCg,ad]at h;obtain⟨h1,h2,h3,h4,h5,h6,h7⟩:=h;obtain⟨g1,g2⟩:=j6 st i r h7;rw[show(i+1)*6=i*6+1+1+1+1+1+1 by omega];simp only[List.take_succ_cons,crD,isCg,g1,g2,h1,h2,h3,h4,h5,h6,bv];exact⟨trivial,trivial⟩
structure CrAt (cs:List V) (i:Nat) (c:CR):Prop where
 k:cs.getD (i*6+0) (.bool false)=.str c.k
 g:cs.getD (i*6+1) (.bool false)=.str c.g
 l:∃x,cs.getD (i*6+2) (.bool false)=.lst x c.l.length (strs c.l)
 ln:c.l.length≤9223372036854775807
 f:cs.getD (i*6+3) (.bool false)=.int .i64 c.f
 u:cs.getD (i*6+4) (.bool false)=.int .i64 c.u
 ca:cs.getD (i*6+5) (.bool false)=.bool c.ca
 len:(i+1)*6≤cs.length
theorem nmZ_spec{v:V}(h:nmZ v=true):∃x,v=.lst x (nmD [] v).length (strs (nmD [] v))∧(nmD [] v).length≤9223372036854775807:=by
 unfold nmZ at h;rw[ad]at h;obtain⟨h1,h2⟩:=h;cases v<;>simp[iI]at h1;rename_i x n cs;unfold nmOk at h2;have e:bC [] (V.lst x n cs)=some (Nat.beq cs.length (n*1)&&(cs.all ar&&Nat.beq cs.length n),cs.map ab):=rfl;rw[e]at h2;simp only[ad]at h2;obtain⟨⟨_,h3,h4⟩,h5⟩:=h2;have hd:nmD [] (V.lst x n cs)=cs.map ab:=by unfold nmD;rw[e]
 have hn:=aP h4;rw[hd];exact⟨x,by rw[mg h3,cg,hn],aw h5⟩
theorem oG{cs:List V}(h:isCz cs=true){i:Nat}{c:CR}{r:List CR}(hd:(crD [] cs).drop i=c::r):CrAt cs i c:=by
 obtain⟨h1,h2⟩:=qE [] i cs h;rw[hd]at h1;have get:∀j,cs.getD (i*6+j) (.bool false)=(cs.drop (i*6)).getD j (.bool false):=fun j=>by
  rw[bX,bX,List.getElem?_drop]
 have hlen:=m6 [] cs h;have hl:i<(crD [] cs).length:=by
  have:=congrArg List.length hd;simp at this;omega
 generalize cs.drop (i*6)=ds at h1 h2 get
 match ds,h1,h2 with
 |a::b::n::d::e::f::q,h1,h2=>
  simp only[crD,List.cons.injEq]at h1;obtain⟨rfl,_⟩:=h1;simp only[isCg,ad]at h2;obtain⟨g1,g2,g3,g4,g5,g6,_⟩:=h2;obtain⟨_,rfl⟩:=mP g1;obtain⟨_,rfl⟩:=mP g2;obtain⟨_,rfl⟩:=mR g4;obtain⟨_,rfl⟩:=mR g5;obtain⟨_,rfl⟩:=sq g6;obtain⟨x,g7,g8⟩:=nmZ_spec g3;refine⟨?_,?_,⟨x,?_⟩,g8,?_,?_,?_,by omega⟩
  ·rw[get];rfl
  ·rw[get];rfl
  ·rw[get];exact g7
  ·rw[get];rfl
  ·rw[get];rfl
  ·rw[get];rfl
def lstR(x:Value)(L:List CX):V:=.lst x L.length (crs L)
def gV(st:St)(v:V):Option (Bool×List CR):=match cQ st 6 v with
 |some (b,(n,cs))=>some (b&&(isCr st cs&&Nat.beq (crD st cs).length n),crD st cs)
 |none=>none
theorem jC{Φ:Frz}{B:Nat}{W0 w:World}{m:List MB}{st:St}(hr:@Rel G Φ B W0 m st w){v:V}{l:List CR}{x:Value}(hv:gV st v=some (true,l))(hx:@real G Φ m v=some x):
  ∃L:List CX,L.map (·.c)=l∧@real G (Frz.of w) [] (lstR x L)=some x∧∀y∈L,y.c.l.length≤9223372036854775807:=by
 unfold gV at hv;split at hv
 ·rename_i b n cs hc;simp only[af,Prod.mk.injEq,ad]at hv;obtain⟨⟨rfl,h1,h2⟩,rfl⟩:=hv;obtain⟨xs,g1,g2⟩:=viewC_gen hr hc hx (by omega);obtain⟨L,e1,e2,e3⟩:=crD_ok hr cs xs h1 g1;refine⟨L,e1,?_,e3⟩;unfold lstR;have:=g2 _ e2;rw[←aP h2,←e1,cg]at this;exact this
 ·cases hv
theorem nmD_lst(st:St)(x:Value)(l:List (List UInt8)):nmD st (lstS x l)=l:=by
 unfold nmD lstS bC cQ;simp only[ai]
theorem nmOk_lst(st:St)(x:Value)(l:List (List UInt8))(h:l.length≤9223372036854775807):nmOk st (lstS x l)=true:=by
 unfold nmOk lstS bC cQ;simp only[ai,bD,aE,Nat.mul_one,a9,bv,aH];exact ag h
theorem ju(st:St):∀L:List CX,crD st (crs L)=L.map (·.c)
 |[]=>rfl
 |y::r=>by simp only[crs,crD,nmD_lst,ju st r,List.map_cons,ab,aq,ew]
theorem isCz_crs:∀L:List CX,(∀y∈L,y.c.l.length≤9223372036854775807)→isCz (crs L)=true
 |[],_=>rfl
 |y::r,h=>by
  have h1:=nmOk_lst [] y.x y.c.l (h y (by simp));have h2:=isCz_crs r (fun z hz=>h z (by simp[hz]));unfold isCz at h2 ⊢;have h3:nmZ (lstS y.x y.c.l)=true:=by unfold nmZ;rw[h1];rfl
  simp only[crs,isCg,h3,h2,ar,ao,de,bv,decide_true]
theorem o3{Φ:Frz}{B:Nat}{W0 w:World}{m:List MB}{st:St}(hr:@Rel G Φ B W0 m st w){k g:List UInt8}{p:V}{l:List (List UInt8)}{f u:Int}{ca:Bool}{x:Value}(hv:bC st p=some (true,l))(hx:@real G Φ m (.agg [.str k,.str g,p,.int .i64 f,.int .i64 u,.bool ca])=some x):
  ∃y,@real G (Frz.of w) [] (.agg [.str k,.str g,lstS y l,.int .i64 f,.int .i64 u,.bool ca])=some x:=by
 obtain⟨xs,h0,rfl⟩:=@ee G Φ m _ _ hx;obtain⟨x0,r0,q0,h0,e0⟩:=@aj G Φ m _ _ _ h0;obtain⟨x1,r1,q1,h1,e1⟩:=@aj G Φ m _ _ _ h0;obtain⟨x2,r2,q2,h2,e2⟩:=@aj G Φ m _ _ _ h1;have h3:=@cB G Φ B W0 w m st hr p l x2 hv q2;have h4:@ap G (Frz.of w) [] [.int .i64 f,.int .i64 u,.bool ca]=some r2:=bw _ _ rfl h2;refine⟨x2,?_⟩;have h5:@real G (Frz.of w) [] (.str k)=some x0:=bJ _ _ rfl q0;have h6:@real G (Frz.of w) [] (.str g)=some x1:=bJ _ _ rfl q1;subst e0 e1 e2;refine @real_agg_mk G (Frz.of w) [] _ _ ?_;simp only[ap,h3,h5,h6]at h4 ⊢;rw[h4]
end
def okR [Glob](n:Nat)(cs:List V):Bool:=isCz cs&&(Nat.beq (crD [] cs).length n&&Nat.ble n 9223372036854775807)
theorem iZ [Glob]{n:Nat}{cs:List V}(h:okR n cs=true):isCz cs=true∧(crD [] cs).length=n∧n≤9223372036854775807∧cs.length=n*6:=by
 unfold okR at h;simp only[ad]at h;have h2:=aP h.2.1;exact⟨h.1,h2,aw h.2.2,by rw[m6 [] cs h.1,h2];omega⟩
theorem pO [Glob]{L:List CX}(h1:L.length≤9223372036854775807)(h2:∀y∈L,y.c.l.length≤9223372036854775807):okR L.length (crs L)=true:=by
 unfold okR;rw[isCz_crs L h2,ju,cg,a9,ag h1];rfl
end Go.Vm
namespace Go.Vm
open Go.RowKit
section
variable [G:Glob]
mutual
theorem ml(k:Nat):∀v:V,v.plain=true→v.shift k=v
 |.bool _,_|.int _ _,_|.str _,_|.nilPtr,_|.nilSlice,_|.nilFunc,_|.nilIface,_|.nilMap,_|.gp _ _,_=>rfl
 |.ptr b off,hf=>by cases hf
 |.slice b off len ex c z,hf=>by cases hf
 |.func fn fs cs,hf=>by
  simp only[V.plain,ad]at hf;simp only[V.shift,fH k fs hf.1,fH k cs hf.2]
 |.yield l,hf=>by cases hf
 |.iface t v,hf=>by
  simp only[V.plain]at hf;simp only[V.shift,ml k v hf]
 |.map b,hf=>by cases hf
 |.agg cs,hf=>by
  simp only[V.plain]at hf;simp only[V.shift,fH k cs hf]
 |.tuple cs,hf=>by
  simp only[V.plain]at hf;simp only[V.shift,fH k cs hf]
 |.lst x n cs,hf=>by cases hf
 |.nos b n,hf=>by cases hf
 |.lptr x n cs o,hf=>by cases hf
theorem fH(k:Nat):∀l:List V,en l=true→aF k l=l
 |[],_=>rfl
 |v::r,hf=>by
  simp only[en,ad]at hf;simp only[aF,ml k v hf.1,fH k r hf.2]
end
end
end Go.Vm
