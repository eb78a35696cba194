/- The virtual machine of this work, continued: the evaluator over values that are not known, tables of functions, loops by a law of their own. -/
import Derived.Test.YtmcdajbfomngcaaDoorVmb
import Derived.Deep.Slices
import Derived.ChangeSame
import Derived.OpenShut
namespace Go.Vm
variable [G:Glob] [Φ:Frz] [Z:LstFlag]
set_option linter.unusedSectionVars false
set_option linter.unusedVariables false
open Go.RowKit
def storeK(P:Program)(st:St)(t:TypeId)(p v:V)(K:St→Prop):Prop:=
 match p,sizeV P t with
 |.ptr b off,some s=>match st[b]? with
  |some (.row cs te sz)=>must (Nat.beq v.cells.length s&&v.cells.all V.one&&Nat.ble (off+v.cells.length) cs.length) (K (st.set b (.row (putAt off v.cells cs) te sz)))
  |_=>False
 |_,_=>False
theorem storeK_ok{P:Program}{st:St}{t:TypeId}{p v:V}{K:St→Prop}(h:storeK P st t p v K):Sure (storeV P st t p v) K:=by
 unfold storeK at h;split at h
 ·rename_i b off s hs;split at h
  ·rename_i cs te sz hb;obtain⟨h1,h2⟩:=must_spec h;simp only[Bool.and_eq_true]at h1;refine⟨_,?_,h2⟩;simp only[storeV,hs,hb];rw[if_pos ⟨Nat.eq_of_beq_eq_true h1.1.1,h1.1.2,Nat.le_of_ble_eq_true h1.2⟩]
  ·exact h.elim
 ·exact h.elim
def makeK(P:Program)(st:St)(t:TypeId)(l c:V)(K:V→St→Prop):Prop:=
 match P.underlying t,l,c with
 |some (.slice e),.int _ l,.int _ c=>match P.info? e,zeroV P e with
  |some i,some z=>must (decide (0≤l)&&decide (l≤c)&&decide (c≤9223372036854775807)&&decide (i.bytes*c≤281474976710656)&&Nat.beq z.cells.length i.size)
    (K (.slice st.length 0 l.toNat false 0 0) (st++[.row (repV z.cells l.toNat) e i.size]))
  |_,_=>False
 |_,_,_=>False
theorem makeK_ok{P:Program}{st:St}{t:TypeId}{l c:V}{K:V→St→Prop}(h:makeK P st t l c K):Sure (makeV P st t l c) (fun r=>K r.1 r.2):=by
 unfold makeK at h;split at h
 ·rename_i e kl l kc c hu;split at h
  ·rename_i i z hi hz;obtain⟨h1,h2⟩:=must_spec h;simp only[Bool.and_eq_true,decide_eq_true_eq]at h1;refine⟨(_,_),?_,h2⟩;simp only[makeV,hu,hi,hz];rw[if_pos ⟨h1.1.1.1.1,h1.1.1.1.2,h1.1.1.2,h1.1.2,Nat.eq_of_beq_eq_true h1.2⟩]
  ·exact h.elim
 ·exact h.elim
def appendK0(P:Program)(st:St)(t:TypeId)(s x:V)(K:V→St→Prop):Prop:=
 match s with
 |.slice b 0 len false 0 0=>match P.underlying t with
  |some (.slice e)=>match P.info? e,zeroV P e with
   |some i,some z=>if 0<i.size∧z.cells.length=i.size then match newsV st i.size x with
    |some (n+1,nc)=>if nc.all V.one=true then match st[b]? with
     |some (.row cs te sz)=>if te=e∧sz=i.size then
       must (Nat.beq cs.length (len*sz)) (must (Nat.ble (len+(n+1)) 9223372036854775807&&Nat.ble ((len+(n+1))*i.bytes) 140737488355328)
        (K (.slice st.length 0 (len+(n+1)) false 0 0) (st.set b .dead++[.row (cs++nc) te sz])))
      else False
     |_=>False
     else False
    |some (0,nc)=>K (.slice b 0 len false 0 0) st
    |none=>False
    else False
   |_,_=>False
  |_=>False
 |s=>optK (appendV P st t s x) (fun r=>K r.1 r.2)
theorem appendK0_ok{P:Program}{st:St}{t:TypeId}{s x:V}{K:V→St→Prop}(h:appendK0 P st t s x K):Sure (appendV P st t s x) (fun r=>K r.1 r.2):=by
 unfold appendK0 at h;split at h
 ·split at h
  ·rename_i hu;split at h
   ·rename_i hi hz;split at h
    ·rename_i hsz;split at h
     ·rename_i hn;split at h
      ·rename_i hone;split at h
       ·rename_i cs te sz hb;split at h
        ·rename_i hte;obtain⟨h1,h2⟩:=must_spec h;obtain⟨h3,h4⟩:=must_spec h2;rw[Bool.and_eq_true]at h3;refine⟨(_,_),?_,h4⟩;simp only[appendV,hu,hi,hz];rw[if_pos hsz];simp only[hn];rw[if_pos hone];simp only[hb];rw[if_pos ⟨hte.1,hte.2,Nat.le_of_ble_eq_true h3.1,Nat.le_of_ble_eq_true h3.2⟩,if_pos (Nat.eq_of_beq_eq_true h1)]
        ·exact h.elim
       ·exact h.elim
      ·exact h.elim
     ·rename_i hn;refine⟨(_,_),?_,h⟩;simp only[appendV,hu,hi,hz];rw[if_pos hsz];simp only[hn]
     ·exact h.elim
    ·exact h.elim
   ·exact h.elim
  ·exact h.elim
 ·exact optK_ok h
def spineL{α:Sort _}:List V→(List V→α)→α
 |[],k=>k []
 |v::r,k=>spineL r fun r=>k (v::r)
theorem spineL_eq{α:Sort _}:∀(l:List V) (k:List V→α),spineL l k=k l
 |[],k=>rfl
 |v::r,k=>by simp only[spineL,spineL_eq r]
def appendK(P:Program)(st:St)(t:TypeId)(s x:V)(K:V→St→Prop):Prop:=
 match x with
 |.lst y n ds=>match P.underlying t with
  |some (.slice e)=>match P.info? e,zeroV P e with
   |some i,some z=>if 0<i.size∧z.cells.length=i.size then
     bif Nat.beq n 0 then(match s with
      |.nilSlice=>K .nilSlice st
      |.slice b off len ex c z=>K (.slice b off len ex c z) st
      |_=>False)
     else must (Nat.beq ds.length (n*i.size)&&ds.all V.one) (match s with
      |.nilSlice=>must (Nat.ble n 9223372036854775807&&Nat.ble (n*i.bytes) 140737488355328) (K (.slice st.length 0 n false 0 0) (st++[.row ds e i.size]))
      |.slice b 0 len false 0 0=>match st[b]? with
       |some (.row cs te sz)=>if te=e∧sz=i.size then
         must (Nat.beq cs.length (len*sz)) (must (Nat.ble (len+n) 9223372036854775807&&Nat.ble ((len+n)*i.bytes) 140737488355328)
          (K (.slice st.length 0 (len+n) false 0 0) (st.set b .dead++[.row (cs++ds) te sz])))
        else False
       |_=>False
      |.slice b off len true c z=>if len=c then(match blkCells st b off (len*i.size)with
       |some cs=>spineL cs fun cs=>must (Nat.ble (len+n) 9223372036854775807&&Nat.ble ((len+n)*i.bytes) 140737488355328) (K (.slice st.length 0 (len+n) false 0 0) (st++[.row (cs++ds) e i.size]))
       |none=>False)else False
      |_=>False)
    else False
   |_,_=>False
  |_=>False
 |x=>appendK0 P st t s x K
theorem appendK_ok{P:Program}{st:St}{t:TypeId}{s x:V}{K:V→St→Prop}(h:appendK P st t s x K):Sure (appendV P st t s x) (fun r=>K r.1 r.2):=by
 unfold appendK at h;split at h
 ·rename_i y n ds;split at h
  ·rename_i e hu;split at h
   ·rename_i i z hi hz;split at h
    ·rename_i hsz;rcases bif_elim h with⟨h0,h⟩|⟨h0,h⟩
     ·have h0:=Nat.eq_of_beq_eq_true h0;subst h0;have hn:newsV st i.size (.lst y 0 ds)=some (0,[]):=by simp[newsV]
      split at h
      ·exact⟨(_,_),by simp only[appendV,hu,hi,hz];rw[if_pos hsz];simp only[hn],h⟩
      ·exact⟨(_,_),by simp only[appendV,hu,hi,hz];rw[if_pos hsz];simp only[hn],h⟩
      ·exact h.elim
     ·obtain⟨k,rfl⟩:∃k,n=k+1:=by
       cases n with
       |zero=>simp at h0
       |succ k=>exact⟨k,rfl⟩
      obtain⟨h1,h⟩:=must_spec h;rw[Bool.and_eq_true]at h1;have hl:=Nat.eq_of_beq_eq_true h1.1;have hn:newsV st i.size (.lst y (k+1) ds)=some (k+1,ds):=by
       simp only[newsV];rw[if_neg (by omega),if_pos (by omega),List.take_of_length_le (by omega)]
      split at h
      ·obtain⟨h3,h4⟩:=must_spec h;rw[Bool.and_eq_true]at h3;refine⟨(_,_),?_,h4⟩;simp only[appendV,hu,hi,hz];rw[if_pos hsz];simp only[hn];rw[if_pos h1.2];rw[if_pos ⟨Nat.le_of_ble_eq_true h3.1,Nat.le_of_ble_eq_true h3.2⟩]
      ·split at h
       ·rename_i cs te sz hb;split at h
        ·rename_i hte;obtain⟨h5,h2⟩:=must_spec h;obtain⟨h3,h4⟩:=must_spec h2;rw[Bool.and_eq_true]at h3;refine⟨(_,_),?_,h4⟩;simp only[appendV,hu,hi,hz];rw[if_pos hsz];simp only[hn];rw[if_pos h1.2];simp only[hb];rw[if_pos ⟨hte.1,hte.2,Nat.le_of_ble_eq_true h3.1,Nat.le_of_ble_eq_true h3.2⟩,if_pos (Nat.eq_of_beq_eq_true h5)]
        ·exact h.elim
       ·exact h.elim
      ·split at h
       ·rename_i hlc;split at h
        ·rename_i cs hcs;rw[spineL_eq]at h;obtain⟨h3,h4⟩:=must_spec h;rw[Bool.and_eq_true]at h3;refine⟨(_,_),?_,h4⟩;simp only[appendV,hu,hi,hz];rw[if_pos hsz];simp only[hn];rw[if_pos h1.2];rw[if_pos ⟨hlc,Nat.le_of_ble_eq_true h3.1,Nat.le_of_ble_eq_true h3.2⟩];simp only[hcs]
        ·exact h.elim
       ·exact h.elim
      ·exact h.elim
    ·exact h.elim
   ·exact h.elim
  ·exact h.elim
 ·exact appendK0_ok h
def strBytesK(P:Program)(st:St)(s d:TypeId)(v:V)(K:V→St→Prop):Prop:=
 match P.underlying s,P.underlying d,v with
 |some .string,some (.slice e),.str l=>match P.underlying e,sizeV P e with
  |some (.int .u8),some 1=>must (Nat.ble l.length 281474976710656) (K (.slice st.length 0 l.length false 0 0) (st++[.row (l.map fun b=>.int .u8 b.toNat) e 1]))
  |_,_=>False
 |_,_,_=>False
theorem strBytesK_ok{P:Program}{st:St}{s d:TypeId}{v:V}{K:V→St→Prop}(h:strBytesK P st s d v K):Sure (strBytesV P st s d v) (fun r=>K r.1 r.2):=by
 unfold strBytesK at h;split at h
 ·rename_i e l hs hd;split at h
  ·rename_i he hse;obtain⟨h1,h2⟩:=must_spec h;exact⟨(.slice st.length 0 l.length false 0 0,st++[.row (l.map fun b=>.int .u8 b.toNat) e 1]),by simp only[strBytesV,hs,hd,he,hse,h1,cond_true],h2⟩
  ·exact h.elim
 ·exact h.elim
def effK(P:Program)(st:St)(ρ:Operand→Option V)(op:Op)(K:V→St→Prop):Prop:=
 match op with
 |.store t x y=>match ρ x,ρ y with
  |some p,some v=>storeK P st t p v (K (.tuple []))
  |_,_=>False
 |.makeSlice t l c=>match ρ l,ρ c with
  |some u,some v=>makeK P st t u v K
  |_,_=>False
 |.call {callee:=.builtin .append,args,argTypes}=>match argTypes.toList,evL ρ args.toList with
  |[t,t'],some [s,x]=>if t=t' then appendK P st t s x K else False
  |_,_=>False
 |.convert s d x=>match ρ x with
  |some v=>strBytesK P st s d v K
  |none=>False
 |op=>optK (effOp P st ρ op) (fun r=>K r.1 r.2)
theorem effK_ok{P:Program}{st:St}{ρ:Operand→Option V}{op:Op}{K:V→St→Prop}(h:effK P st ρ op K):Sure (effOp P st ρ op) (fun r=>K r.1 r.2):=by
 unfold effK at h;split at h
 ·split at h
  ·rename_i hx hy;obtain⟨s,h1,h2⟩:=storeK_ok h;exact⟨(.tuple [],s),by simp only[effOp,hx,hy,h1],h2⟩
  ·exact h.elim
 ·split at h
  ·rename_i hx hy;obtain⟨r,h1,h2⟩:=makeK_ok h;exact⟨r,by simp only[effOp,hx,hy];exact h1,h2⟩
  ·exact h.elim
 ·split at h
  ·rename_i ht ha;split at h
   ·rename_i he;obtain⟨r,h1,h2⟩:=appendK_ok h;exact⟨r,by simp only[effOp,ht,ha];rw[if_pos he];exact h1,h2⟩
   ·exact h.elim
  ·exact h.elim
 ·split at h
  ·rename_i hx;obtain⟨r,h1,h2⟩:=strBytesK_ok h;exact⟨r,by simp only[effOp,hx];exact h1,h2⟩
  ·exact h.elim
 ·exact optK_ok h
inductive Kind where
 |look|make|call
def externB(P:Program)(g:FuncId):Bool:=match P.funcs[g]? with
 |some fn=>fn.body.isNone
 |none=>false
def kindOf(P:Program):Op→Kind
 |.call {callee:=.value (.func g),..}=>bif externB P g then .look else .call
 |.call {callee:=.value _,..}=>.call
 |.call {callee:=.builtin .append,..}=>.make
 |.call {callee:=.builtin .clear,..}=>.make
 |.alloc _=>.make
 |.box _ _=>.make
 |.store _ _ _=>.make
 |.makeSlice _ _ _=>.make
 |.buildSlice _ _ _=>.make
 |.convert s d _=>match P.underlying s,P.underlying d with
  |some .string,some (.slice _)=>.make
  |_,_=>.look
 |_=>.look
theorem make_notPure{P:Program}{st:St}{ρ:Operand→Option V}{op:Op}(h:kindOf P op=.make):pureOp P st ρ op=none:=by
 unfold kindOf at h;split at h
 all_goals try (cases h;done)
 all_goals try rfl
 ·rename_i g a b;cases hb:externB P g with
  |true=>rw[hb]at h;cases h
  |false=>rw[hb]at h;cases h
 rename_i s d x;split at h
 ·rename_i hs hd;simp only[pureOp];split
  ·simp only[convV,hs,hd]
  ·rfl
 ·cases h
abbrev CallK:=Tgt→List V→St→(V→St→Prop)→Prop
def CallKOk(P:Program)(ck:CallK):Prop:=∀tgt args st Q,ck tgt args st Q→TgtSat P tgt args st Q
def goCall(ck:CallK)(g:FuncId)(args:List V)(st:St)(K:V→St→Prop):Prop:=
 match st with
 |[]=>ck (.fn g) args [] K
 |b::r=>bif flatL args then ck (.fn g) args [] (fun v s2=>bif v.flat then K v (b::r)else K (v.shift (b::r).length) ((b::r)++s2.map (Blk.shift (b::r).length)))
  else ck (.fn g) args (b::r) K
section
variable {P:Program} {call:Call} {ck:CallK} {ro:Option Nat} {f:Fr} {st:St} {B:Nat} {W0 w:World} {m:List MB}
theorem FnSat.flatK{g:FuncId}{args:List V}{Q:V→St→Prop}(hf:flatL args=true)(h:FnSat P g args [] (fun v s2=>bif v.flat then Q v st else Q (v.shift st.length) (st++s2.map (Blk.shift st.length)))):FnSat P g args st Q:=by
 intro B W0 m w rargs hargs hr;refine(h w.heap.size w [] w rargs (realL_flat args rargs hf hargs) (Rel.empty w hr.gok)).mono ?_;rintro e w' ⟨v,x,m',s2,rfl,_,hv,hrel,hq⟩;cases hfl:v.flat with
 |true=>rw[hfl,cond_true]at hq;exact⟨v,x,m,st,rfl,Ext.refl m,real_flat v x hfl hv,hr.later hrel.below,hq⟩
 |false=>
  rw[hfl,cond_false]at hq;refine⟨v.shift st.length,x,m++m',st++s2.map (Blk.shift st.length),rfl,fun b e hb=>?_,by rw[←hr.len];exact real_shift v x hv,hr.join hrel,hq⟩;rw[List.getElem?_append_left (List.getElem?_eq_some_iff.1 hb).1];exact hb
theorem goCall_ok(hc:CallKOk P ck){g:FuncId}{args:List V}{K:V→St→Prop}(h:goCall ck g args st K):FnSat P g args st K:=by
 unfold goCall at h;cases st with
 |nil=>exact hc (.fn g) args [] K h
 |cons b r=>
  simp only at h;cases hf:flatL args with
  |false=>rw[hf,cond_false]at h;exact hc (.fn g) args _ K h
  |true=>rw[hf,cond_true]at h;exact FnSat.flatK hf (hc (.fn g) args [] _ h)
def opK(P:Program)(ck:CallK)(f:Fr)(st:St)(o:Oper)(K:Fr→St→Prop):Prop:=
 match kindOf P o.op with
 |.look=>pureK P st (ev f.T.get) o.op (fun v=>K (f.put o.dst v) st)
 |.make=>effK P st (ev f.T.get) o.op (fun v s=>K (f.put o.dst v) s)
 |.call=>match o.op with
  |.call {callee:=.value x,args,argTypes}=>match ev f.T.get x,evL (ev f.T.get) args.toList with
   |some (.func (.func g) fs cs),some as=>bif plainFn P g then goCall ck g (fs++as++cs) st (fun v s=>K (f.put o.dst v) s)else False
   |some (.yield l),some as=>ck (.yld l) as st (fun v s=>K (f.put o.dst v) s)
   |_,_=>False
  |_=>False
theorem opK_ok(hc:CallKOk P ck){F:Fence}{a:Act}{Q:Exit→Act→World→Prop}(hF:FOk m ro F)(ha:AOk m f a)(hr:Rel B W0 m st w){o:Oper}{K:Fr→St→Prop}(h:opK P ck f st o K){K':Act→World→Prop}
  (hK:∀a w,Then B W0 m K a w→K' a w):o.wpIn F 0 P a w K' Q:=by
 unfold opK at h;split at h
 ·obtain⟨v,h1,h2⟩:=pureK_ok h;refine opStep_ok (call:=noTable) noTable_ok hF ha hr (f':=f.put o.dst v) (st':=st) (by simp only[opStep,h1]) ?_;rintro a w ⟨m',f',s',e1,e2,e3,e4⟩;cases e4;exact hK a w ⟨m',_,_,e1,e2,e3,h2⟩
 ·rename_i hk;obtain⟨⟨v,s⟩,h1,h2⟩:=effK_ok h;refine opStep_ok (call:=noTable) noTable_ok hF ha hr (f':=f.put o.dst v) (st':=s) (by simp only[opStep,make_notPure hk,h1]) ?_;rintro a w ⟨m',f',s',e1,e2,e3,e4⟩;cases e4;exact hK a w ⟨m',_,_,e1,e2,e3,h2⟩
 ·split at h
  ·rename_i x args ats ho;split at h
   ·rename_i g fs cs as hx has;cases hp:plainFn P g with
    |false=>rw[hp]at h;exact h.elim
    |true=>
     rw[hp,cond_true]at h;refine call_upon hF ha hr ho hx has hp (goCall_ok hc h) ?_;intro v s m' y w' hq e1 e2 e3;exact hK _ _ ⟨m',_,_,e1,(ha.mono e1).put e2 _,e3,hq⟩
   ·rename_i l as hx has;refine yield_upon hF ha hr ho hx has (hc (.yld l) as st _ h) ?_;intro v s m' y w' hq e1 e2 e3;exact hK _ _ ⟨m',_,_,e1,(ha.mono e1).put e2 _,e3,hq⟩
   ·exact h.elim
  ·exact h.elim
theorem AOk.known{a:Act}(h:AOk m f a){t:Nat}{v:V}(ht:f.T.get t=some v):AOk m (f.put (some t) v) a:=by
 unfold Fr.put;cases hb:Nat.blt t f.sz with
 |false=>
  simp only[hb];exact h
 |true=>
  simp only[hb];refine⟨⟨h.tmps.1,fun u x hx=>?_⟩,h.defers⟩;rcases Tr.get_put hx with⟨rfl,rfl⟩|⟨_,hx⟩
  ·exact h.tmps.2 _ _ ht
  ·exact h.tmps.2 u x hx
def guardK(ops:Array Oper)(f:Fr)(o:Oper)(A B:Fr→Prop):Prop:=
 match o.guard with
 |none=>A f
 |some (j,want)=>match ops[j]? with
  |some oj=>match oj.dst with
   |some d=>match f.T.get d with
    |some (.bool b)=>match want with
     |true=>bif b then A (f.put (some d) (.bool true))else B (f.put (some d) (.bool false))
     |false=>bif b then B (f.put (some d) (.bool true))else A (f.put (some d) (.bool false))
    |some (.tuple [])=>B f
    |_=>False
   |none=>False
  |none=>False
theorem guardK_ok{ops:Array Oper}{o:Oper}{A C:Fr→Prop}{a:Act}(ha:AOk m f a)(h:guardK ops f o A C):∃f',AOk m f' a∧((Region.wanted o (yielded ops a.tmps)=true∧A f')∨(Region.wanted o (yielded ops a.tmps)=false∧C f')):=by
 have gv:=fun b=>guardV_ok (ops:=ops) (o:=o) (b:=b) ha;unfold guardV at gv;unfold guardK at h;cases hg:o.guard with
 |none=>rw[hg]at h gv;exact⟨f,ha,.inl ⟨gv true rfl,h⟩⟩
 |some p=>
  obtain⟨j,want⟩:=p;rw[hg]at h gv;simp only at h gv;cases hj:ops[j]? with
  |none=>rw[hj]at h;exact h.elim
  |some oj=>
   rw[hj]at h gv;simp only at h gv;cases hd:oj.dst with
   |none=>rw[hd]at h;exact h.elim
   |some d=>
    rw[hd]at h gv;simp only at h gv;cases ht:f.T.get d with
    |none=>rw[ht]at h;exact h.elim
    |some v=>
     rw[ht]at h gv;cases v with
     |bool b=>
      simp only at h gv;cases want with
      |true=>
       rcases bif_elim h with⟨rfl,h⟩|⟨rfl,h⟩
       ·exact⟨_,ha.known ht,.inl ⟨gv true rfl,h⟩⟩
       ·exact⟨_,ha.known ht,.inr ⟨gv false rfl,h⟩⟩
      |false=>
       rcases bif_elim h with⟨rfl,h⟩|⟨rfl,h⟩
       ·exact⟨_,ha.known ht,.inr ⟨gv false rfl,h⟩⟩
       ·exact⟨_,ha.known ht,.inl ⟨gv true rfl,h⟩⟩
     |tuple l=>
      cases l with
      |nil=>exact⟨f,ha,.inr ⟨gv false rfl,h⟩⟩
      |cons=>exact h.elim
     |_=>exact h.elim
def opsK(P:Program)(ck:CallK)(ops:Array Oper):List Oper→Fr→St→(Fr→St→Prop)→Prop
 |[],f,st,K=>K f st
 |o::r,f,st,K=>guardK ops f o (fun f=>opK P ck f st o (fun f s=>opsK P ck ops r f s K)) (fun f=>opsK P ck ops r (f.put o.dst (.tuple [])) st K)
theorem opsK_ok(hc:CallKOk P ck){ops:Array Oper}{F:Fence}{Q:Exit→Act→World→Prop}{K:Fr→St→Prop}:∀(l:List Oper) (k:Nat),(∀j,l[j]?=ops[k+j]?)→
  ∀(f:Fr) (st:St),opsK P ck ops l f st K→
   ∀(B:Nat) (W0 w:World) (m:List MB) (a:Act),FOk m ro F→AOk m f a→Rel B W0 m st w→(∀a w,Then B W0 m K a w→Q .normal a w)→
    wpOpsIn F 0 P ops Q (List.range' k l.length) a w
 |[],k,_,f,st,h,B,W0,w,m,a,hF,ha,hr,hQ=>hQ a w ⟨m,f,st,Ext.refl m,ha,hr,h⟩
 |o::l,k,hl,f,st,h,B,W0,w,m,a,hF,ha,hr,hQ=>by
  have ho:ops[k]?=some o:=by simpa using(hl 0).symm
  have hl':∀j,l[j]?=ops[k+1+j]?:=fun j=>by have:=hl (j+1);simpa[Nat.add_assoc,Nat.add_comm 1 j]using this
  simp only[opsK]at h;simp only[List.length_cons,List.range'_succ,wpOpsIn,ho];obtain⟨f0,ha0,⟨hw,h⟩|⟨hw,h⟩⟩:=guardK_ok ha h
  ·rw[if_pos hw];refine opK_ok hc hF ha0 hr h ?_;rintro a1 w1 ⟨m1,f2,st2,e1,e2,e3,e4⟩;exact opsK_ok hc l (k+1) hl' f2 st2 e4 B W0 w1 m1 a1 (hF.mono e1) e2 e3 fun a w ⟨m2,f2,s2,g1,g2,g3,g4⟩=>hQ a w ⟨m2,f2,s2,e1.trans g1,g2,g3,g4⟩
  ·rw[if_neg (by rw[hw];simp)];refine⟨fun g _=>hF.fn g,?_⟩;exact opsK_ok hc l (k+1) hl' _ st h B W0 w m _ hF (ha0.put (x:=undef) rfl _) hr hQ
def guardB(ops:Array Oper)(T:Nat→Option V)(o:Oper)(A B:Prop):Prop:=
 match o.guard with
 |none=>A
 |some (j,want)=>match ops[j]? with
  |some oj=>match oj.dst with
   |some d=>match T d with
    |some (.bool b)=>match want with
     |true=>bif b then A else B
     |false=>bif b then B else A
    |some (.tuple [])=>B
    |_=>False
   |none=>False
  |none=>False
theorem guardB_ok{ops:Array Oper}{T:Nat→Option V}{o:Oper}{A C:Prop}(h:guardB ops T o A C):(guardT ops T o=some true∧A)∨(guardT ops T o=some false∧C):=by
 unfold guardB at h;unfold guardT;cases hg:o.guard with
 |none=>rw[hg]at h;exact .inl ⟨rfl,h⟩
 |some p=>
  obtain⟨j,want⟩:=p;rw[hg]at h;simp only at h ⊢;cases hj:ops[j]? with
  |none=>rw[hj]at h;exact h.elim
  |some oj=>
   rw[hj]at h;simp only at h ⊢;cases hd:oj.dst with
   |none=>rw[hd]at h;exact h.elim
   |some d=>
    rw[hd]at h;simp only at h ⊢;cases ht:T d with
    |none=>rw[ht]at h;exact h.elim
    |some v=>
     rw[ht]at h;cases v with
     |bool b=>
      simp only at h ⊢;cases want with
      |true=>
       rcases bif_elim h with⟨rfl,h2⟩|⟨rfl,h2⟩
       ·exact .inl ⟨rfl,h2⟩
       ·exact .inr ⟨rfl,h2⟩
      |false=>
       rcases bif_elim h with⟨rfl,h2⟩|⟨rfl,h2⟩
       ·exact .inr ⟨rfl,h2⟩
       ·exact .inl ⟨rfl,h2⟩
     |tuple l=>
      cases l with
      |nil=>exact .inr ⟨rfl,h⟩
      |cons=>exact h.elim
     |_=>exact h.elim
theorem guardV_eq(ops:Array Oper)(f:Fr)(o:Oper):guardV ops f o=guardT ops f.T.get o:=rfl
def knGet:List (Nat×Bool)→Nat→Option Bool
 |[],_=>none
 |(d,b)::r,t=>bif Nat.beq d t then some b else knGet r t
def KnOk(kn:List (Nat×Bool))(f:Fr):Prop:=∀d b,knGet kn d=some b→f.T.get d=some (.bool b)
def knPut(kn:List (Nat×Bool)):Option Tmp→List (Nat×Bool)
 |none=>kn
 |some t=>match knGet kn t with
  |none=>kn
  |some _=>[]
theorem Tr.getF_put_ne:∀(f:Nat) (t:Tr) (k:Nat) (v:V) (i:Nat),i≠k→Tr.getF f (Tr.putF f t k v) i=Tr.getF f t i
 |0,_,_,_,_,_=>rfl
 |f+1,t,k,v,i,h=>by
  have half:∀{a b:Nat} {c:Bool},Nat.beq (a%2) 0=c→Nat.beq (b%2) 0=c→a+1≠b+1→a/2≠b/2:=by
   intro a b c h1 h2 h3;cases c with
   |true=>have:=Nat.eq_of_beq_eq_true h1;have:=Nat.eq_of_beq_eq_true h2;omega
   |false=>
    have g1:a%2≠0:=by intro e;rw[e]at h1;cases h1
    have g2:b%2≠0:=by intro e;rw[e]at h2;cases h2
    omega
  cases t with
  |lf=>
   cases k with
   |zero=>
    cases i with
    |zero=>exact absurd rfl h
    |succ i=>cases hi:Nat.beq (i%2) 0<;>simp[Tr.putF,Tr.getF,Tr.getF_lf,hi]
   |succ j=>
    cases i with
    |zero=>cases hj:Nat.beq (j%2) 0<;>simp[Tr.putF,Tr.getF,hj]
    |succ i=>
     cases hj:Nat.beq (j%2) 0<;>cases hi:Nat.beq (i%2) 0<;>simp only[Tr.putF,Tr.getF,hi,hj,cond_true,cond_false,Tr.getF_lf]
     ·rw[Tr.getF_put_ne f .lf (j/2) v (i/2) (half hi hj h),Tr.getF_lf]
     ·rw[Tr.getF_put_ne f .lf (j/2) v (i/2) (half hi hj h),Tr.getF_lf]
  |nd l u r=>
   cases k with
   |zero=>
    cases i with
    |zero=>exact absurd rfl h
    |succ i=>cases hi:Nat.beq (i%2) 0<;>simp[Tr.putF,Tr.getF,hi]
   |succ j=>
    cases i with
    |zero=>cases hj:Nat.beq (j%2) 0<;>simp[Tr.putF,Tr.getF,hj]
    |succ i=>
     cases hj:Nat.beq (j%2) 0<;>cases hi:Nat.beq (i%2) 0<;>simp only[Tr.putF,Tr.getF,hi,hj,cond_true,cond_false]
     ·exact Tr.getF_put_ne f r (j/2) v (i/2) (half hi hj h)
     ·exact Tr.getF_put_ne f l (j/2) v (i/2) (half hi hj h)
theorem KnOk.put{kn:List (Nat×Bool)}{f:Fr}(h:KnOk kn f)(d:Option Tmp)(v:V):KnOk (knPut kn d) (f.put d v):=by
 cases d with
 |none=>exact h
 |some t=>
  cases ht:knGet kn t with
  |some b=>
   have e:knPut kn (some t)=[]:=by simp only[knPut,ht]
   rw[e];intro d b h;simp[knGet]at h
  |none=>
   have e:knPut kn (some t)=kn:=by simp only[knPut,ht]
   rw[e];intro d b hd;have hne:d≠t:=by rintro rfl;rw[ht]at hd;cases hd
   show(bif Nat.blt t f.sz then(⟨f.sz,f.T.put t v,f.defs⟩:Fr)else f).T.get d=some (.bool b);cases Nat.blt t f.sz with
   |false=>exact h d b hd
   |true=>
    rw[←h d b hd];exact Tr.getF_put_ne 12 f.T t v d hne
theorem KnOk.cons{kn:List (Nat×Bool)}{f:Fr}(h:KnOk kn f){d:Nat}{b:Bool}(hd:f.T.get d=some (.bool b)):KnOk ((d,b)::kn) f:=by
 intro e c he;unfold knGet at he;cases hb:Nat.beq d e with
 |true=>
  rw[hb,cond_true]at he;cases he;rw[←Nat.eq_of_beq_eq_true hb];exact hd
 |false=>rw[hb,cond_false]at he;exact h e c he
theorem KnOk.nil{f:Fr}:KnOk [] f:=fun d b h=>by simp[knGet]at h
def guardN(ops:Array Oper)(T:Nat→Option V)(kn:List (Nat×Bool))(o:Oper)(A B:List (Nat×Bool)→Prop):Prop:=
 match o.guard with
 |none=>A kn
 |some (j,want)=>match ops[j]? with
  |some oj=>match oj.dst with
   |some d=>match knGet kn d with
    |some b=>match want with
     |true=>bif b then A kn else B kn
     |false=>bif b then B kn else A kn
    |none=>match T d with
     |some (.bool b)=>match want with
      |true=>bif b then A ((d,true)::kn)else B ((d,false)::kn)
      |false=>bif b then B ((d,true)::kn)else A ((d,false)::kn)
     |some (.tuple [])=>B kn
     |_=>False
   |none=>False
  |none=>False
theorem guardN_ok{ops:Array Oper}{f:Fr}{kn:List (Nat×Bool)}{o:Oper}{A C:List (Nat×Bool)→Prop}(hk:KnOk kn f)(h:guardN ops f.T.get kn o A C):
  (guardT ops f.T.get o=some true∧∃kn',KnOk kn' f∧A kn')∨(guardT ops f.T.get o=some false∧∃kn',KnOk kn' f∧C kn'):=by
 unfold guardN at h;unfold guardT;cases hg:o.guard with
 |none=>rw[hg]at h;exact .inl ⟨rfl,kn,hk,h⟩
 |some p=>
  obtain⟨j,want⟩:=p;rw[hg]at h;simp only at h ⊢;cases hj:ops[j]? with
  |none=>rw[hj]at h;exact h.elim
  |some oj=>
   rw[hj]at h;simp only at h ⊢;cases hd:oj.dst with
   |none=>rw[hd]at h;exact h.elim
   |some d=>
    rw[hd]at h;simp only at h ⊢;cases hn:knGet kn d with
    |some b=>
     rw[hn]at h;simp only[hk d b hn];cases want with
     |true=>
      rcases bif_elim h with⟨rfl,h2⟩|⟨rfl,h2⟩
      ·exact .inl ⟨rfl,kn,hk,h2⟩
      ·exact .inr ⟨rfl,kn,hk,h2⟩
     |false=>
      rcases bif_elim h with⟨rfl,h2⟩|⟨rfl,h2⟩
      ·exact .inr ⟨rfl,kn,hk,h2⟩
      ·exact .inl ⟨rfl,kn,hk,h2⟩
    |none=>
     rw[hn]at h;simp only at h;cases ht:f.T.get d with
     |none=>rw[ht]at h;exact h.elim
     |some v=>
      rw[ht]at h;cases v with
      |bool b=>
       simp only at h ⊢;cases want with
       |true=>
        rcases bif_elim h with⟨rfl,h2⟩|⟨rfl,h2⟩
        ·exact .inl ⟨rfl,_,hk.cons ht,h2⟩
        ·exact .inr ⟨rfl,_,hk.cons ht,h2⟩
       |false=>
        rcases bif_elim h with⟨rfl,h2⟩|⟨rfl,h2⟩
        ·exact .inr ⟨rfl,_,hk.cons ht,h2⟩
        ·exact .inl ⟨rfl,_,hk.cons ht,h2⟩
      |tuple l=>
       cases l with
       |nil=>exact .inr ⟨rfl,kn,hk,h⟩
       |cons=>exact h.elim
      |_=>exact h.elim
def pickN(kn:List (Nat×Bool)):Op→Option Operand
 |.pick (.tmp c) x y=>match knGet kn c with
  |some true=>some x
  |some false=>some y
  |none=>none
 |_=>none
theorem pickN_ok{kn:List (Nat×Bool)}{f:Fr}{op:Op}{x:Operand}(hk:KnOk kn f)(h:pickN kn op=some x):pureOp P st (ev f.T.get) op=ev f.T.get x:=by
 unfold pickN at h;split at h
 ·rename_i c a b;cases hn:knGet kn c with
  |none=>rw[hn]at h;cases h
  |some t=>
   rw[hn]at h;have hc:ev f.T.get (.tmp c)=some (.bool t):=hk c t hn;simp only[pureOp];rw[hc];cases t<;>(cases h;rfl)
 ·cases h
theorem stillStep_put{o:Oper}{f f':Fr}(h:stillStep P call f st o=some f'):∃v,f'=f.put o.dst v:=by
 unfold stillStep at h;split at h
 ·cases h;exact⟨_,rfl⟩
 ·split at h
  ·cases h;exact⟨_,rfl⟩
  ·cases h
def pickO:List (Bool×(V×St))→Option (V×St)
 |[]=>none
 |(b,o)::r=>bif b then some o else pickO r
def pickQ(Q:V→St→Prop):List (Bool×(V×St))→Prop
 |[]=>False
 |(b,o)::r=>bif b then Q o.1 o.2 else pickQ Q r
theorem pickQ_ok{Q:V→St→Prop}:∀{l:List (Bool×(V×St))},pickQ Q l→∃o,pickO l=some o∧Q o.1 o.2
 |[],h=>h.elim
 |(b,o)::r,h=>by
  rcases bif_elim h with⟨rfl,h⟩|⟨rfl,h⟩
  ·exact⟨o,rfl,h⟩
  ·exact pickQ_ok (l:=r) h
abbrev CallQ:=Tgt→List V→St→Option (Bool×List (Bool×(V×St)))
variable {cq:CallQ}
def unq(cq:CallQ):Call:=fun t a s=>match cq t a s with
 |some (_,l)=>pickO l
 |none=>none
def liftQ(c:Call):CallQ:=fun t a s=>match c t a s with
 |some r=>some (false,[(true,r)])
 |none=>none
theorem unq_lift(c:Call):unq (liftQ c)=c:=by
 funext t a s;unfold unq liftQ;cases c t a s<;>rfl
theorem unq_some{cq:CallQ}{t:Tgt}{a:List V}{s:St}{b:Bool}{l:List (Bool×(V×St))}{o:V×St}(h:cq t a s=some (b,l))(ho:pickO l=some o):unq cq t a s=some o:=by
 unfold unq;rw[h];exact ho
def doQ(cq:CallQ)(g:FuncId)(args:List V)(st:St)(K:V→St→Prop):Prop:=
 bif flatL args then match cq (.fn g) args []with
  |some (_,l)=>pickQ (fun v s2=>bif v.flat then K v st else K (v.shift st.length) (st++s2.map (Blk.shift st.length))) l
  |none=>False
 else match cq (.fn g) args st with
  |some (_,l)=>pickQ K l
  |none=>False
def callQ(P:Program)(cq:CallQ)(T:Nat→Option V)(mem:St)(op:Op)(K:V→St→Prop):Prop:=match op with
 |.call {callee:=.value x,args,argTypes}=>match ev T x,evL (ev T) args.toList with
  |some (.func (.func g) fs cs),some as=>bif plainFn P g then doQ cq g (fs++as++cs) mem K else False
  |some (.yield l),some as=>match cq (.yld l) as mem with
   |some (_,l)=>pickQ K l
   |none=>False
  |_,_=>False
 |_=>False
theorem doQ_ok{cq:CallQ}{g:FuncId}{args:List V}{st:St}{K:V→St→Prop}(h:doQ cq g args st K):Sure (doCall (unq cq) g args st) (fun r=>K r.1 r.2):=by
 unfold doQ at h;unfold doCall;cases hf:flatL args with
 |true=>
  rw[hf,cond_true]at h;rw[cond_true];split at h
  ·rename_i b l hl;obtain⟨o,h1,h2⟩:=pickQ_ok h;rw[unq_some hl h1];obtain⟨v,s2⟩:=o;cases hv:v.flat with
   |true=>rw[hv,cond_true]at h2;simp only[hv,cond_true];exact⟨_,rfl,h2⟩
   |false=>rw[hv,cond_false]at h2;simp only[hv,cond_false];exact⟨_,rfl,h2⟩
  ·exact h.elim
 |false=>
  rw[hf,cond_false]at h;rw[cond_false];split at h
  ·rename_i b l hl;obtain⟨o,h1,h2⟩:=pickQ_ok h;exact⟨o,unq_some hl h1,h2⟩
  ·exact h.elim
theorem extern_none{P:Program}{st:St}{ρ:Operand→Option V}{g:FuncId}{args:Array Operand}{ats:Array TypeId}(h:externB P g=false):pureOp P st ρ (.call {callee:=.value (.func g),args,argTypes:=ats})=none:=by
 have hx:∀s c,externV P g s c=none:=by
  intro s c;unfold externV;unfold externB at h;cases hf:P.funcs[g]? with
  |none=>rfl
  |some fn=>rw[hf]at h;simp only at h;simp only[h,cond_false]
 simp only[pureOp];split
 ·split
  ·exact hx _ _
  ·rfl
 ·rfl
theorem callQ_ok{P:Program}{cq:CallQ}{T:Nat→Option V}{mem:St}{op:Op}{K:V→St→Prop}(hk:kindOf P op=.call)(h:callQ P cq T mem op K):Sure (opVal P (unq cq) T mem op) (fun r=>K r.1 r.2):=by
 unfold callQ at h;split at h
 ·rename_i x args ats;have hp:pureOp P mem (ev T) (.call {callee:=.value x,args,argTypes:=ats})=none:=by
   cases x with
   |func g=>
    refine extern_none ?_;cases hb:externB P g with
    |false=>rfl
    |true=>simp only[kindOf,hb,cond_true]at hk;cases hk
   |_=>rfl
  have he:effOp P mem (ev T) (.call {callee:=.value x,args,argTypes:=ats})=none:=rfl;unfold opVal;rw[hp,he];simp only
  split at h
  ·rename_i g fs cs as hx has;simp only[hx,has];cases hpl:plainFn P g with
   |false=>rw[hpl]at h;exact h.elim
   |true=>rw[hpl,cond_true]at h;rw[cond_true];exact doQ_ok h
  ·rename_i l as hx has;simp only[hx,has];split at h
   ·rename_i b q hl;obtain⟨o,h1,h2⟩:=pickQ_ok h;exact⟨o,unq_some hl h1,h2⟩
   ·exact h.elim
  ·exact h.elim
 ·exact h.elim
def seeQ(P:Program)(cq:CallQ)(T:Nat→Option V)(cur:St)(op:Op):Option (List (Bool×(V×St))):=match op with
 |.call {callee:=.value x,args,argTypes}=>match ev T x,evL (ev T) args.toList with
  |some (.func (.func g) fs cs),some as=>bif flatL (fs++as++cs)then none else bif plainFn P g then(match cq (.fn g) (fs++as++cs) (cur.map Blk.toRo)with
   |some (true,l)=>bif l.all (fun o=>o.2.1.plain)then some l else none
   |_=>none)else none
  |_,_=>none
 |_=>none
theorem pickO_mem:∀{l:List (Bool×(V×St))} {o:V×St},pickO l=some o→∃b,(b,o)∈l
 |[],o,h=>by cases h
 |(b,x)::r,o,h=>by
  cases b with
  |true=>simp only[pickO,cond_true,Option.some.injEq]at h;subst h;exact⟨true,by simp⟩
  |false=>simp only[pickO,cond_false]at h;obtain⟨c,hc⟩:=pickO_mem h;exact⟨c,by simp[hc]⟩
theorem seeQ_ok{P:Program}{cq:CallQ}{T:Nat→Option V}{cur:St}{op:Op}{l:List (Bool×(V×St))}{v:V}{s:St}(h:seeQ P cq T cur op=some l)(ho:pickO l=some (v,s))(hf:v.flat=true):seeOp P (unq cq) T cur op=some v:=by
 unfold seeQ at h;unfold seeOp;split at h
 ·rename_i x args ats;split at h
  ·rename_i g fs cs as hx has;simp only[hx,has];cases hfl:flatL (fs++as++cs)with
   |true=>rw[hfl]at h;cases h
   |false=>
    rw[hfl,cond_false]at h;rw[cond_false];cases hp:plainFn P g with
    |false=>rw[hp]at h;cases h
    |true=>
     rw[hp,cond_true]at h;rw[cond_true];split at h
     ·rename_i l' hl;cases hb:l'.all (fun o=>o.2.1.plain)with
      |false=>rw[hb]at h;cases h
      |true=>
      rw[hb,cond_true]at h;cases h;unfold lookCall;rw[hfl,cond_false,unq_some hl ho];obtain⟨b,hm⟩:=pickO_mem ho;have hp2:=List.all_eq_true.1 hb _ hm;simp only at hp2;simp only[V.plain_flat _ hp2,hp2,plainO,Bool.true_or,cond_true]
     ·cases h
  ·cases h
 ·cases h
def lookQ(P:Program)(cq:CallQ)(T:Nat→Option V)(cur:St)(op:Op):Option (List (Bool×(V×St))):=match pureOp P cur (ev T) op with
 |some _=>none
 |none=>match op with
  |.call {callee:=.value x,args,argTypes}=>match ev T x,evL (ev T) args.toList with
   |some (.func (.func g) fs cs),some as=>bif plainFn P g then(match cq (.fn g) (fs++as++cs) (bif flatL (fs++as++cs)then[]else cur.map Blk.toRo)with
    |some (true,l)=>bif l.all (fun o=>o.2.1.flat||(!flatL (fs++as++cs)&&ltV cur.length o.2.1))then some l else none
    |_=>none)else none
   |_,_=>none
  |_=>none
theorem lookQ_ok{P:Program}{cq:CallQ}{f:Fr}{cur:St}{o:Oper}{l:List (Bool×(V×St))}{v:V}{s:St}(h:lookQ P cq f.T.get cur o.op=some l)(ho:pickO l=some (v,s)):stillStep P (unq cq) f cur o=some (f.put o.dst v):=by
 unfold lookQ at h;unfold stillStep;split at h
 ·cases h
 ·rename_i hpu;simp only[hpu];unfold lookOp;split at h
  ·rename_i x args ats hop;simp only[hop];split at h
   ·rename_i g fs cs as hx has;simp only[hx,has];cases hp:plainFn P g with
    |false=>rw[hp]at h;cases h
    |true=>
     rw[hp,cond_true]at h;simp only[cond_true];split at h
     ·rename_i l' hl;cases hb:l'.all (fun o=>o.2.1.flat||(!flatL (fs++as++cs)&&ltV cur.length o.2.1))with
      |false=>rw[hb]at h;cases h
      |true=>
       rw[hb,cond_true]at h;cases h;unfold lookCall;rw[unq_some hl ho];obtain⟨b,hm⟩:=pickO_mem ho;have hp2:=List.all_eq_true.1 hb _ hm;simp only at hp2;simp only[hp2,cond_true]
     ·cases h
   ·cases h
  ·cases h
def stillK(P:Program)(cq:CallQ)(ops:Array Oper)(st:St):List Oper→Fr→List (Nat×Bool)→(Fr→Prop)→Prop
 |[],f,_,K=>K f
 |o::r,f,kn,K=>guardN ops f.T.get kn o
   (fun kn=>match pickN kn o.op with
     |some x=>optK (ev f.T.get x) (fun v=>stillK P cq ops st r (f.put o.dst v) (knPut kn o.dst) K)
     |none=>match kindOf P o.op with
      |.call=>match lookQ P cq f.T.get st o.op with
       |some l=>pickQ (fun v _=>stillK P cq ops st r (f.put o.dst v) (knPut kn o.dst) K) l
       |none=>optK (stillStep P (unq cq) f st o) (fun f'=>stillK P cq ops st r f' (knPut kn o.dst) K)
      |_=>pureK P st (ev f.T.get) o.op (fun v=>stillK P cq ops st r (f.put o.dst v) (knPut kn o.dst) K))
   (fun kn=>stillK P cq ops st r (f.put o.dst (.tuple [])) (knPut kn o.dst) K)
theorem stillK_ok{ops:Array Oper}:∀{l:List Oper} {f:Fr} {kn:List (Nat×Bool)} {K:Fr→Prop},KnOk kn f→stillK P cq ops st l f kn K→Sure (evalStill P (unq cq) ops st l f) K
 |[],f,kn,K,_,h=>⟨f,rfl,h⟩
 |o::r,f,kn,K,hk,h=>by
  simp only[stillK]at h;simp only[evalStill,guardV_eq];rcases guardN_ok hk h with⟨hg,kn',hk',h⟩|⟨hg,kn',hk',h⟩
  ·simp only[hg];split at h
   ·rename_i x hx;obtain⟨v,h1,h2⟩:=optK_ok h;have:stillStep P (unq cq) f st o=some (f.put o.dst v):=by simp only[stillStep,pickN_ok hk' hx,h1]
    simp only[this];exact stillK_ok (hk'.put _ v) h2
   ·split at h
    ·split at h
     ·rename_i l hl;obtain⟨⟨v,s2⟩,ho,h⟩:=pickQ_ok h;simp only[lookQ_ok hl ho];exact stillK_ok (hk'.put _ v) h
     ·obtain⟨f',h1,h2⟩:=optK_ok h;simp only[h1];obtain⟨v,rfl⟩:=stillStep_put h1;exact stillK_ok (hk'.put _ v) h2
    ·obtain⟨v,h1,h2⟩:=pureK_ok h;have:stillStep P (unq cq) f st o=some (f.put o.dst v):=by simp only[stillStep,h1]
     simp only[this];exact stillK_ok (hk'.put _ v) h2
  ·simp only[hg];exact stillK_ok (hk'.put _ _) h
def valK(P:Program)(cq:CallQ)(T:Nat→Option V)(mem:St)(op:Op)(K:V→St→Prop):Prop:=
 match kindOf P op with
 |.look=>pureK P mem (ev T) op (fun v=>K v mem)
 |.make=>effK P mem (ev T) op K
 |.call=>callQ P cq T mem op K
theorem valK_ok{T:Nat→Option V}{mem:St}{op:Op}{K:V→St→Prop}(h:valK P cq T mem op K):Sure (opVal P (unq cq) T mem op) (fun r=>K r.1 r.2):=by
 unfold valK at h;split at h
 ·obtain⟨v,h1,h2⟩:=pureK_ok h;exact⟨(v,mem),by unfold opVal;rw[h1],h2⟩
 ·rename_i hk;obtain⟨r,h1,h2⟩:=effK_ok h;exact⟨r,by unfold opVal;rw[make_notPure hk];simp only[h1],h2⟩
 ·rename_i hk;exact callQ_ok hk h
def guarded(ops:Array Oper)(i:Nat):Bool:=ops.toList.any fun o=>match o.guard with
 |some (j,_)=>Nat.beq j i
 |none=>false
def splitG(c:Bool)(v:V)(K:V→Prop):Prop:=bif c then(match v with
 |.bool b=>bif b then K (.bool true)else K (.bool false)
 |v=>K v)else K v
theorem splitG_ok{c:Bool}{v:V}{K:V→Prop}(h:splitG c v K):K v:=by
 unfold splitG at h;rcases bif_elim h with⟨_,h⟩|⟨_,h⟩
 ·split at h
  ·rename_i b;rcases bif_elim h with⟨hb,h⟩|⟨hb,h⟩
   ·rw[hb];exact h
   ·rw[hb];exact h
  ·exact h
 ·exact h
def rK(P:Program)(cq:CallQ)(ops:Array Oper)(f:Fr)(st:St)(dsts:List Tmp):List Oper→List Rec→(List Rec→Prop)→Prop
 |[],recs,K=>K recs
 |o::r,recs,K=>bif o.after.toList.all (fun e=>!Region.binds .any e||Nat.blt e.on recs.length)then
   guardB ops (frameR f dsts (ancOf recs o.after.toList) recs) o
    (valK P cq (frameR f dsts (ancOf recs o.after.toList) recs) (st.map Blk.toRo++memR (ancOf recs o.after.toList) 0 recs) o.op
      (fun v s2=>splitG (guarded ops recs.length) v fun v=>rK P cq ops f st dsts r (recs++[⟨o.dst,capX (capB ops o) v,ancOf recs o.after.toList,(s2.drop (st.length+lenR recs)).map Blk.keep⟩]) K))
    (rK P cq ops f st dsts r (recs++[⟨o.dst,.tuple [],ancOf recs o.after.toList,[]⟩]) K)
  else False
theorem rK_ok{ops:Array Oper}{dsts:List Tmp}:∀{l:List Oper} {recs:List Rec} {K:List Rec→Prop},rK P cq ops f st dsts l recs K→Sure (evalR P (unq cq) ops f st dsts l recs) K
 |[],recs,K,h=>⟨recs,rfl,h⟩
 |o::r,recs,K,h=>by
  simp only[rK]at h;rcases bif_elim h with⟨ha,h⟩|⟨_,h⟩
  ·rcases guardB_ok h with⟨hg,h⟩|⟨hg,h⟩
   ·obtain⟨⟨v,s2⟩,h1,h2⟩:=valK_ok h;obtain⟨R,h3,h4⟩:=rK_ok (splitG_ok h2);refine⟨R,?_,h4⟩;simp only[evalR,stepR,ha,cond_true,hg,h1];exact h3
   ·obtain⟨R,h3,h4⟩:=rK_ok h;refine⟨R,?_,h4⟩;simp only[evalR,stepR,ha,cond_true,hg];exact h3
  ·exact h.elim
def askedB(ops:Array Oper)(dst:Option Tmp):Bool:=match dst with
 |some d=>ops.toList.any fun o=>match o.op with
  |.call {callee:=.value (.tmp _),args,argTypes:=_}=>args.toList.any fun x=>match x with
   |.tmp t=>Nat.beq t d
   |_=>false
  |_=>false
 |none=>false
def eK(P:Program)(cq:CallQ)(ops:Array Oper)(f:Fr)(dsts:Nat→List Tmp):List Oper→List RE→St→Nat→Nat→Nat→Nat→(List RE→St→Prop)→Prop
 |[],recs,cur,_,_,_,_,K=>K recs cur
 |o::r,recs,cur,em,sm,wm,lm,K=>
  bif o.after.toList.all (fun e=>!Region.binds .any e||Nat.blt e.on recs.length)then
   guardB ops (frameR f (dsts recs.length) (ancOf (recsOf recs) o.after.toList) (recsOf recs)) o
    (bif noMemB o.op then
      pureK P cur (ev (frameR f (dsts recs.length) (ancOf (recsOf recs) o.after.toList) (recsOf recs))) o.op
       (fun v=>splitG (guarded ops recs.length||askedB ops o.dst) v fun v=>eK P cq ops f dsts r (recs++[⟨⟨o.dst,v,(ancOf (recsOf recs) o.after.toList),[]⟩,false,false,cur,false,false,none⟩]) cur em sm wm lm K)
    else match loadB (frameR f (dsts recs.length) (ancOf (recsOf recs) o.after.toList) (recsOf recs)) o.op with
    |some (t,b,off)=>bif subB wm (ancOf (recsOf recs) o.after.toList)||ordL b (ancOf (recsOf recs) o.after.toList) 0 recs then
      pureK P cur (ev (frameR f (dsts recs.length) (ancOf (recsOf recs) o.after.toList) (recsOf recs))) o.op (fun v=>eK P cq ops f dsts r (recs++[⟨⟨o.dst,v,(ancOf (recsOf recs) o.after.toList),[]⟩,false,false,cur,false,true,some b⟩]) cur em sm wm (lm|||1<<<recs.length) K)
     else False
    |none=>bif lookB P o.op then
     bif subB em (ancOf (recsOf recs) o.after.toList)then
      pureK P cur (ev (frameR f (dsts recs.length) (ancOf (recsOf recs) o.after.toList) (recsOf recs))) o.op
       (fun v=>eK P cq ops f dsts r (recs++[⟨⟨o.dst,v,(ancOf (recsOf recs) o.after.toList),[]⟩,false,true,cur,false,false,none⟩]) cur em (sm|||1<<<recs.length) wm lm K)
     else False
    else match seeQ P cq (frameR f (dsts recs.length) (ancOf (recsOf recs) o.after.toList) (recsOf recs)) cur o.op with
    |some l=>bif subB em (ancOf (recsOf recs) o.after.toList)then pickQ (fun v _=>bif v.flat then eK P cq ops f dsts r (recs++[⟨⟨o.dst,v,(ancOf (recsOf recs) o.after.toList),[]⟩,false,true,cur,ltOp (frameR f (dsts recs.length) (ancOf (recsOf recs) o.after.toList) (recsOf recs)) cur.length o.op,false,none⟩]) cur em (sm|||1<<<recs.length) wm lm K else False) l else False
    |none=>match seeOp P (unq cq) (frameR f (dsts recs.length) (ancOf (recsOf recs) o.after.toList) (recsOf recs)) cur o.op with
    |some v=>bif subB em (ancOf (recsOf recs) o.after.toList)then eK P cq ops f dsts r (recs++[⟨⟨o.dst,v,(ancOf (recsOf recs) o.after.toList),[]⟩,false,true,cur,ltOp (frameR f (dsts recs.length) (ancOf (recsOf recs) o.after.toList) (recsOf recs)) cur.length o.op,false,none⟩]) cur em (sm|||1<<<recs.length) wm lm K else False
    |none=>valK P cq (frameR f (dsts recs.length) (ancOf (recsOf recs) o.after.toList) (recsOf recs)) cur o.op
      (fun v cur'=>bif pcallB (frameR f (dsts recs.length) (ancOf (recsOf recs) o.after.toList) (recsOf recs)) o.op v then eK P cq ops f dsts r (recs++[⟨⟨o.dst,v,(ancOf (recsOf recs) o.after.toList),[]⟩,false,false,cur,false,false,none⟩]) cur em sm wm lm K
        else bif makerB o.op&&isApp cur cur' then(bif subB sm (ancOf (recsOf recs) o.after.toList)||(subB em (ancOf (recsOf recs) o.after.toList)&&ordS (ancOf (recsOf recs) o.after.toList) 0 recs)then eK P cq ops f dsts r (recs++[⟨⟨o.dst,v,(ancOf (recsOf recs) o.after.toList),[]⟩,true,true,cur,true,false,none⟩]) cur' (em|||1<<<recs.length) (sm|||1<<<recs.length) wm lm K else False)
         else bif subB sm (ancOf (recsOf recs) o.after.toList)then(bif subB lm (ancOf (recsOf recs) o.after.toList)||ordW (wrB (frameR f (dsts recs.length) (ancOf (recsOf recs) o.after.toList) (recsOf recs)) cur.length o.op) (ancOf (recsOf recs) o.after.toList) 0 recs then eK P cq ops f dsts r (recs++[⟨⟨o.dst,v,(ancOf (recsOf recs) o.after.toList),[]⟩,true,true,cur,false,false,wrB (frameR f (dsts recs.length) (ancOf (recsOf recs) o.after.toList) (recsOf recs)) cur.length o.op⟩]) cur' (em|||1<<<recs.length) (sm|||1<<<recs.length) (wm|||1<<<recs.length) lm K else False)else False))
    (eK P cq ops f dsts r (recs++[⟨⟨o.dst,.tuple [],(ancOf (recsOf recs) o.after.toList),[]⟩,false,false,cur,false,false,none⟩]) cur em sm wm lm K)
  else False
theorem eK_ok{ops:Array Oper}{dsts:Nat→List Tmp}:∀{l:List Oper} {recs:List RE} {cur:St} {em sm wm lm:Nat} {K:List RE→St→Prop},eK P cq ops f dsts l recs cur em sm wm lm K→Sure (evalE P (unq cq) ops f dsts l recs cur em sm wm lm) (fun r=>K r.1 r.2)
 |[],recs,cur,em,sm,wm,lm,K,h=>⟨(recs,cur),rfl,h⟩
 |o::r,recs,cur,em,sm,wm,lm,K,h=>by
  simp only[eK]at h;simp only[evalE];rcases bif_elim h with⟨ha,h⟩|⟨_,h⟩
  ·rw[ha,cond_true];rcases guardB_ok h with⟨hg,h⟩|⟨hg,h⟩
   ·rw[hg];simp only
    rcases bif_elim h with⟨hn,h⟩|⟨hn,h⟩
    ·rw[hn,cond_true];obtain⟨v,h1,h2⟩:=pureK_ok h;rw[h1];exact eK_ok (splitG_ok h2)
    ·rw[hn,cond_false];split at h
     ·rename_i t b off hld;simp only[hld];rcases bif_elim h with⟨hs,h⟩|⟨_,h⟩
      ·obtain⟨v,h1,h2⟩:=pureK_ok h;obtain⟨xo,hop,hxo⟩:=loadB_spec hld;rw[hop]at h1;simp only[pureOp,hxo]at h1;simp only[h1,hs,cond_true];exact eK_ok h2
      ·exact h.elim
     rename_i hld;simp only[hld];rcases bif_elim h with⟨hk,h⟩|⟨hk,h⟩
     ·rw[hk,cond_true];rcases bif_elim h with⟨hs,h⟩|⟨_,h⟩
      ·obtain⟨v,h1,h2⟩:=pureK_ok h;rw[h1,hs];exact eK_ok h2
      ·exact h.elim
     ·rw[hk,cond_false];split at h
      ·rename_i l hl;rcases bif_elim h with⟨hs,h⟩|⟨_,h⟩
       ·obtain⟨⟨v,s2⟩,ho,h⟩:=pickQ_ok h;rcases bif_elim h with⟨hf,h⟩|⟨_,h⟩
        ·simp only[seeQ_ok hl ho hf];rw[hs];exact eK_ok h
        ·exact h.elim
       ·exact h.elim
      split at h
      ·rename_i v hv;simp only[hv];rcases bif_elim h with⟨hs,h⟩|⟨_,h⟩
       ·rw[hs];exact eK_ok h
       ·exact h.elim
      rename_i hv;simp only[hv];obtain⟨⟨v,c⟩,h1,h2⟩:=valK_ok h;rw[h1];simp only
      rcases bif_elim h2 with⟨hp,h2⟩|⟨hp,h2⟩
      ·rw[hp,cond_true];exact eK_ok h2
      ·rw[hp,cond_false];rcases bif_elim h2 with⟨hm,h2⟩|⟨hm,h2⟩
       ·rw[hm,cond_true];rcases bif_elim h2 with⟨hs,h2⟩|⟨_,h2⟩
        ·rw[hs,cond_true];exact eK_ok h2
        ·exact h2.elim
       ·rw[hm,cond_false];rcases bif_elim h2 with⟨hs,h2⟩|⟨_,h2⟩
        ·rw[hs,cond_true];rcases bif_elim h2 with⟨hl,h2⟩|⟨_,h2⟩
         ·rw[hl];exact eK_ok h2
         ·exact h2.elim
        ·exact h2.elim
   ·rw[hg];exact eK_ok h
  ·exact h.elim
theorem see_notStep{P:Program}{call:Call}{T:Nat→Option V}{cur:St}{op:Op}{v:V}(h:seeOp P call T cur op=some v):stepF P call T cur op=none:=by
 unfold seeOp at h;split at h
 ·rename_i x args ats;split at h
  ·rename_i g fs cs as hx has;cases hfl:flatL (fs++as++cs)with
   |true=>rw[hfl]at h;cases h
   |false=>
    have hp:∀u,pcallB T (.call {callee:=.value x,args:=args,argTypes:=ats}) u=false:=fun u=>by
     unfold pcallB;simp only[hx,has,hfl,Bool.false_and]
    have hn:noMemB (.call {callee:=.value x,args:=args,argTypes:=ats})=false:=rfl;unfold stepF;simp only[hn,cond_false,hp];split<;>rfl
  ·cases h
 ·cases h
def spineM{α:Type}:St→(St→α)→α
 |[],k=>k []
 |.row cs t sz::r,k=>forceN t fun t=>forceN sz fun sz=>spineM r fun r=>k (.row cs t sz::r)
 |.ro o cs::r,k=>spineM r fun r=>k (.ro o cs::r)
 |b::r,k=>spineM r fun r=>k (b::r)
theorem spineM_eq{α:Type}:∀(s:St) (k:St→α),spineM s k=k s
 |[],k=>rfl
 |.row cs t sz::r,k=>by simp only[spineM,forceN_eq,spineM_eq r]
 |.ro o cs::r,k=>by simp only[spineM,spineM_eq r]
 |.dead::r,k=>by simp only[spineM,spineM_eq r]
 |.defd::r,k=>by simp only[spineM,spineM_eq r]
 |.mpu::r,k=>by simp only[spineM,spineM_eq r]
 |.mp _::r,k=>by simp only[spineM,spineM_eq r]
 |.sit _ _::r,k=>by simp only[spineM,spineM_eq r]
 |.loop ..::r,k=>by simp only[spineM,spineM_eq r]
def softZ(v:V)(c:St)(k:V→St→Prop):Prop:=bif Z.rm then softV v fun v=>spineM c fun c=>k v c else k v c
theorem softZ_eq(v:V)(c:St)(k:V→St→Prop):softZ v c k=k v c:=by
 unfold softZ;cases Z.rm with
 |true=>rw[cond_true,softV_eq,spineM_eq]
 |false=>rfl
def fK(P:Program)(cq:CallQ)(ops:Array Oper)(f:Fr)(dsts:List Tmp):List Oper→List RF→St→(List RF→St→Prop)→Prop
 |[],recs,cur,K=>K recs cur
 |o::r,recs,cur,K=>
  bif o.after.toList.all (fun e=>!Region.binds .any e||Nat.blt e.on recs.length)then
   guardB ops (frameR f dsts (ancOf (recsF recs) o.after.toList) (recsF recs)) o
    (match o.op with
    |.load t x=>match ev (frameR f dsts (ancOf (recsF recs) o.after.toList) (recsF recs)) x with
     |some (.ptr b off)=>bif ordF [(b,false)] (ancOf (recsF recs) o.after.toList) recs then loadK false P cur t b off (fun v=>fK P cq ops f dsts r (recs++[⟨⟨o.dst,v,ancOf (recsF recs) o.after.toList,[]⟩,[(b,false)],cur,false,false⟩]) cur K)else False
     |_=>False
    |.store t x y=>match ev (frameR f dsts (ancOf (recsF recs) o.after.toList) (recsF recs)) x,ev (frameR f dsts (ancOf (recsF recs) o.after.toList) (recsF recs)) y with
     |some (.ptr b off),some v=>bif ordF [(b,true)] (ancOf (recsF recs) o.after.toList) recs then storeK P cur t (.ptr b off) v (fun cur'=>fK P cq ops f dsts r (recs++[⟨⟨o.dst,.tuple [],ancOf (recsF recs) o.after.toList,[]⟩,[(b,true)],cur,false,false⟩]) cur' K)else False
     |_,_=>False
    |.alloc t=>match zeroV P t with
     |some z=>bif flatL z.cells&&ordF [(cur.length,true)] (ancOf (recsF recs) o.after.toList) recs then fK P cq ops f dsts r (recs++[⟨⟨o.dst,.ptr cur.length 0,ancOf (recsF recs) o.after.toList,[]⟩,[(cur.length,true)],cur,true,false⟩]) (cur++[.row z.cells t z.cells.length]) K else False
     |none=>False
    |.buildSlice t len parts=>match evParts (ev (frameR f dsts (ancOf (recsF recs) o.after.toList) (recsF recs))) parts.toList with
     |some ps=>match buildSliceV P cur t len ps with
      |some (v,cur')=>bif lastFlat cur' cur.length&&ordF [(cur.length,true)] (ancOf (recsF recs) o.after.toList) recs then fK P cq ops f dsts r (recs++[⟨⟨o.dst,v,ancOf (recsF recs) o.after.toList,[]⟩,[(cur.length,true)],cur,true,false⟩]) cur' K else False
      |none=>False
     |none=>False
    |.call {callee:=.builtin .append,args,argTypes}=>match argTypes.toList,evL (ev (frameR f dsts (ancOf (recsF recs) o.after.toList) (recsF recs))) args.toList with
     |[t,t'],some [s,x]=>if t=t' then appendK P cur t s x (fun v cur'=>softZ v cur' fun v cur'=>bif isApp cur cur' then(bif lastFlat cur' cur.length&&ordF (fpS x++(fpD s++[(cur.length,true)])) (ancOf (recsF recs) o.after.toList) recs then fK P cq ops f dsts r (recs++[⟨⟨o.dst,v,ancOf (recsF recs) o.after.toList,[]⟩,fpS x++(fpD s++[(cur.length,true)]),cur,true,false⟩]) cur' K else False)else(bif emptyX x then fK P cq ops f dsts r (recs++[⟨⟨o.dst,v,ancOf (recsF recs) o.after.toList,[]⟩,[],cur,false,false⟩]) cur K else False))else False
     |_,_=>False
    |op=>bif noMemB op then pureK P cur (ev (frameR f dsts (ancOf (recsF recs) o.after.toList) (recsF recs))) op (fun v=>splitG (guarded ops recs.length) v fun v=>fK P cq ops f dsts r (recs++[⟨⟨o.dst,v,ancOf (recsF recs) o.after.toList,[]⟩,[],cur,false,false⟩]) cur K)
     else match seeQ P cq (frameR f dsts (ancOf (recsF recs) o.after.toList) (recsF recs)) cur op with
     |some l=>bif ordA (ancOf (recsF recs) o.after.toList) 0 recs then pickQ (fun v _=>bif v.flat then fK P cq ops f dsts r (recs++[⟨⟨o.dst,v,ancOf (recsF recs) o.after.toList,[]⟩,[],cur,false,true⟩]) cur K else False) l else False
     |none=>match seeOp P (unq cq) (frameR f dsts (ancOf (recsF recs) o.after.toList) (recsF recs)) cur op with
     |some v=>bif ordA (ancOf (recsF recs) o.after.toList) 0 recs then fK P cq ops f dsts r (recs++[⟨⟨o.dst,v,ancOf (recsF recs) o.after.toList,[]⟩,[],cur,false,true⟩]) cur K else False
     |none=>valK P cq (frameR f dsts (ancOf (recsF recs) o.after.toList) (recsF recs)) cur op (fun v cur'=>bif pcallB (frameR f dsts (ancOf (recsF recs) o.after.toList) (recsF recs)) op v then splitG (guarded ops recs.length) v fun v=>fK P cq ops f dsts r (recs++[⟨⟨o.dst,v,ancOf (recsF recs) o.after.toList,[]⟩,[],cur,false,false⟩]) cur K else False))
    (fK P cq ops f dsts r (recs++[⟨⟨o.dst,.tuple [],ancOf (recsF recs) o.after.toList,[]⟩,[],cur,false,false⟩]) cur K)
  else False
theorem fK_ok{ops:Array Oper}{dsts:List Tmp}:∀{l:List Oper} {recs:List RF} {cur:St} {K:List RF→St→Prop},fK P cq ops f dsts l recs cur K→Sure (evalF P (unq cq) ops f dsts l recs cur) (fun r=>K r.1 r.2)
 |[],recs,cur,K,h=>⟨(recs,cur),rfl,h⟩
 |o::r,recs,cur,K,h=>by
  simp only[fK]at h;simp only[evalF];rcases bif_elim h with⟨ha,h⟩|⟨_,h⟩
  ·rw[ha,cond_true];rcases guardB_ok h with⟨hg,h⟩|⟨hg,h⟩
   ·rw[hg];simp only
    have go:∀{v:V} {fp:List (Nat×Bool)} {mk:Bool} {cur':St},stepF P (unq cq) (frameR f dsts (ancOf (recsF recs) o.after.toList) (recsF recs)) cur o.op=some (v,fp,mk,cur')→ordF fp (ancOf (recsF recs) o.after.toList) recs=true→fK P cq ops f dsts r (recs++[⟨⟨o.dst,v,ancOf (recsF recs) o.after.toList,[]⟩,fp,cur,mk,false⟩]) cur' K→
      Sure (match stepF P (unq cq) (frameR f dsts (ancOf (recsF recs) o.after.toList) (recsF recs)) cur o.op with
       |some (v,fp,mk,cur')=>bif ordF fp (ancOf (recsF recs) o.after.toList) recs then evalF P (unq cq) ops f dsts r (recs++[⟨⟨o.dst,v,ancOf (recsF recs) o.after.toList,[]⟩,fp,cur,mk,false⟩]) cur' else none
       |none=>match seeOp P (unq cq) (frameR f dsts (ancOf (recsF recs) o.after.toList) (recsF recs)) cur o.op with
        |some v=>bif ordA (ancOf (recsF recs) o.after.toList) 0 recs then evalF P (unq cq) ops f dsts r (recs++[⟨⟨o.dst,v,ancOf (recsF recs) o.after.toList,[]⟩,[],cur,false,true⟩]) cur else none
        |none=>none) (fun r=>K r.1 r.2):=fun{v fp mk cur'} hs ho hk=>by
     rw[hs];simp only[ho,cond_true];exact fK_ok hk
    have ord0:ordF [] (ancOf (recsF recs) o.after.toList) recs=true:=rfl;split at h
    ·rename_i t x hop;split at h
     ·rename_i b off hx;rcases bif_elim h with⟨hb,h⟩|⟨_,h⟩
      ·obtain⟨v,h1,h2⟩:=loadK_ok h;exact go (by simp only[stepF,hop,hx,h1]) hb h2
      ·exact h.elim
     ·exact h.elim
    ·rename_i t x y hop;split at h
     ·rename_i b off v hx hy;rcases bif_elim h with⟨hb,h⟩|⟨_,h⟩
      ·obtain⟨c,h1,h2⟩:=storeK_ok h;exact go (by simp only[stepF,hop,hx,hy,h1]) hb h2
      ·exact h.elim
     ·exact h.elim
    ·rename_i t hop;split at h
     ·rename_i z hz;rcases bif_elim h with⟨hb,h⟩|⟨_,h⟩
      ·rw[Bool.and_eq_true]at hb;exact go (by simp only[stepF,hop,hz,hb.1,cond_true]) hb.2 h
      ·exact h.elim
     ·exact h.elim
    ·rename_i t len parts hop;split at h
     ·rename_i ps hps;split at h
      ·rename_i v c hb;rcases bif_elim h with⟨hc,h⟩|⟨_,h⟩
       ·rw[Bool.and_eq_true]at hc;exact go (by simp only[stepF,hop,hps,hb,hc.1,cond_true]) hc.2 h
       ·exact h.elim
      ·exact h.elim
     ·exact h.elim
    ·rename_i args ats hop;split at h
     ·rename_i t t' s x ht hl;split at h
      ·rename_i htt;obtain⟨⟨v,c⟩,h1,h2⟩:=appendK_ok h;simp only[softZ_eq]at h2;rcases bif_elim h2 with⟨hi,h2⟩|⟨hi,h2⟩
       ·rcases bif_elim h2 with⟨hc,h2⟩|⟨_,h2⟩
        ·rw[Bool.and_eq_true]at hc;exact go (by simp only[stepF,hop,ht,hl,if_pos htt,h1,hi,hc.1,cond_true]) hc.2 h2
        ·exact h2.elim
       ·rcases bif_elim h2 with⟨hc,h2⟩|⟨_,h2⟩
        ·exact go (by simp only[stepF,hop,ht,hl,if_pos htt,h1,hi,hc,cond_true,cond_false]) ord0 h2
        ·exact h2.elim
      ·exact h.elim
     ·exact h.elim
    ·rename_i hnl hns hna hnb hnp;have hst:stepF P (unq cq) (frameR f dsts (ancOf (recsF recs) o.after.toList) (recsF recs)) cur o.op=bif noMemB o.op then
       (match pureOp P cur (ev (frameR f dsts (ancOf (recsF recs) o.after.toList) (recsF recs))) o.op with
       |some v=>some (v,[],false,cur)
       |none=>none)
      else match opVal P (unq cq) (frameR f dsts (ancOf (recsF recs) o.after.toList) (recsF recs)) cur o.op with
       |some (v,_)=>bif pcallB (frameR f dsts (ancOf (recsF recs) o.after.toList) (recsF recs)) o.op v then some (v,[],false,cur)else none
       |none=>none:=by
      unfold stepF;split
      ·exact absurd (by assumption) (hnl _ _)
      ·exact absurd (by assumption) (hns _ _ _)
      ·exact absurd (by assumption) (hna _)
      ·exact absurd (by assumption) (hnb _ _ _)
      ·exact absurd (by assumption) (hnp _ _)
      ·rfl
     rcases bif_elim h with⟨hm,h⟩|⟨hm,h⟩
     ·obtain⟨v,h1,h2⟩:=pureK_ok h;exact go (by rw[hst,hm,cond_true,h1]) ord0 (splitG_ok h2)
     ·have look:∀{v:V},seeOp P (unq cq) (frameR f dsts (ancOf (recsF recs) o.after.toList) (recsF recs)) cur o.op=some v→ordA (ancOf (recsF recs) o.after.toList) 0 recs=true→fK P cq ops f dsts r (recs++[⟨⟨o.dst,v,ancOf (recsF recs) o.after.toList,[]⟩,[],cur,false,true⟩]) cur K→
        Sure (match stepF P (unq cq) (frameR f dsts (ancOf (recsF recs) o.after.toList) (recsF recs)) cur o.op with
         |some (v,fp,mk,cur')=>bif ordF fp (ancOf (recsF recs) o.after.toList) recs then evalF P (unq cq) ops f dsts r (recs++[⟨⟨o.dst,v,ancOf (recsF recs) o.after.toList,[]⟩,fp,cur,mk,false⟩]) cur' else none
         |none=>match seeOp P (unq cq) (frameR f dsts (ancOf (recsF recs) o.after.toList) (recsF recs)) cur o.op with
          |some v=>bif ordA (ancOf (recsF recs) o.after.toList) 0 recs then evalF P (unq cq) ops f dsts r (recs++[⟨⟨o.dst,v,ancOf (recsF recs) o.after.toList,[]⟩,[],cur,false,true⟩]) cur else none
          |none=>none) (fun r=>K r.1 r.2):=fun{v} hs ho hk=>by
       rw[see_notStep hs,hs];simp only[ho,cond_true];exact fK_ok hk
      split at h
      ·rename_i l hl;rcases bif_elim h with⟨ho,h⟩|⟨_,h⟩
       ·obtain⟨⟨v,s2⟩,hp,h⟩:=pickQ_ok h;rcases bif_elim h with⟨hf,h⟩|⟨_,h⟩
        ·exact look (seeQ_ok hl hp hf) ho h
        ·exact h.elim
       ·exact h.elim
      split at h
      ·rename_i v hv;rcases bif_elim h with⟨ho,h⟩|⟨_,h⟩
       ·exact look hv ho h
       ·exact h.elim
      obtain⟨⟨v,c⟩,h1,h2⟩:=valK_ok h;rcases bif_elim h2 with⟨hp,h2⟩|⟨_,h2⟩
      ·exact go (by rw[hst,hm,cond_false,h1];simp only[hp,cond_true]) ord0 (splitG_ok h2)
      ·exact h2.elim
   ·rw[hg];exact fK_ok h
  ·exact h.elim
def ancM:List Oper→List Nat→List Nat
 |[],l=>l
 |o::r,l=>ancM r (l++[o.after.toList.foldl (fun m e=>bif Region.binds .any e then m|||(1<<<e.on)|||l.getD e.on 0 else m) 0])
def loose(ops:Array Oper):Bool:=(ops.toList.zipIdx).any fun q=>match q.1.op with
 |.store .. =>(ops.toList.zipIdx.take q.2).any fun p=>match p.1.op with
  |.load .. =>!(Nat.testBit ((ancM ops.toList []).getD q.2 0) p.2)
  |_=>false
 |_=>false
def twoApps(ops:Array Oper):Bool:=ops.toList.any fun o=>match o.op with
 |.call {callee:=.builtin .append,args,argTypes:=_}=>match args.toList with
  |.tmp t::_=>ops.toList.any fun p=>match p.dst,p.op with
   |some d,.call {callee:=.builtin .append,args:=_,argTypes:=_}=>Nat.beq d t
   |_,_=>false
  |_=>false
 |_=>false
def stores(ops:Array Oper):Bool:=ops.toList.any fun o=>match o.op with|.store .. =>true|_=>false
def slAt(f:Fr)(t:Tmp):Bool:=match f.T.get t with
 |some (.slice ..)=>true
 |some .nilSlice=>true
 |_=>false
def appsOld(f:Fr)(ops:Array Oper):Bool:=ops.toList.any fun o=>match o.op with
 |.call {callee:=.builtin .append,args,argTypes:=_}=>match args.toList with
  |.tmp t::_=>slAt f t||ops.toList.any (fun p=>match p.dst,p.op with
   |some d,.move (.tmp k)=>Nat.beq d t&&slAt f k
   |_,_=>false)
  |_=>false
 |_=>false
def valB(f:Fr)(ops:Array Oper):Bool:=ops.toList.any fun o=>match o.op with
 |.call {callee:=.value (.tmp t),args:=_,argTypes:=_}=>match f.T.get t with
  |some (.func _ _ (_::_))=>true
  |some _=>false
  |none=>true
 |_=>false
def makesNone(P:Program)(ops:Array Oper):Bool:=ops.toList.all fun o=>match kindOf P o.op with|.make=>false|_=>true
def fillsMap(ops:Array Oper):Bool:=match ops.toList with
 |o::_=>(match o.op with|.makeMap _ none=>true|_=>false)&&ops.toList.any (fun o=>match o.op with|.insert _ _ _ _=>true|_=>false)
 |[]=>false
def drawK(P:Program)(cq:CallQ)(ops:Array Oper)(f:Fr)(st:St)(K:Fr→St→Prop):Prop:=
 bif (Region.lexB .any ops&&noDefer ops)&&(makesNone P ops&&!valB f ops)then stillK P cq ops st ops.toList f [] (fun f'=>K f' st)
 else bif fillsMap ops then optK (evalDrawMap P (unq cq) ops f st) (fun r=>softM (r.2.drop st.length) fun n=>K r.1 (st++n))
 else bif (distinct (dstsOf ops)&&(dstsOf ops).all (fun d=>Nat.blt d f.sz))&&noDefer ops then
  bif loose ops||(twoApps ops&&!valB f ops)then fK P cq ops f (dstsOf ops) ops.toList [] st (fun recs fin=>K (putsR f (recsF recs)) fin)else
  bif stores ops||(appsOld f ops||valB f ops)then eK P cq ops f (dstsAt ops) ops.toList [] st 0 0 0 0 (fun recs fin=>K (putsR f (recsOf recs)) fin)else
  rK P cq ops f st (dstsOf ops) ops.toList [] (fun recs=>K (putsR f recs) (st++blksR recs))
 else False
theorem drawK_ok(hm:P.follows .mixedOrders=true)(hc:CallOk P (unq cq)){id:Nat}{ops:Array Oper}{Q:Exit→Fr→St→Prop}(h:drawK P cq ops f st (Q .normal)):CodeSat P ro (.region id ops true) f st Q:=by
 unfold drawK at h;rcases bif_elim h with⟨h1,h⟩|⟨_,h⟩
 ·simp only[Bool.and_eq_true]at h1;obtain⟨f',h2,h3⟩:=stillK_ok KnOk.nil h;exact sat_draw hm hc h1.1.1 h1.1.2 h2 h3
 ·rcases bif_elim h with⟨_,h⟩|⟨_,h⟩
  ·obtain⟨⟨f',st'⟩,h2,h3⟩:=optK_ok h;have h4:softM (st'.drop st.length) (fun n=>Q .normal f' (st++n)):=h3;rw[softM_eq]at h4;have e:st++st'.drop st.length=st':=by
    have:=List.take_append_drop st.length st';rw[evalDrawMap_pre h2]at this;exact this
   rw[e]at h4;exact sat_draw_map hm hc h2 h4
  rcases bif_elim h with⟨h1,h⟩|⟨_,h⟩
  ·rcases bif_elim h with⟨_,h⟩|⟨_,h⟩
   ·obtain⟨⟨R,fin⟩,h2,h3⟩:=fK_ok h;exact sat_draw_fp hm hc (f':=putsR f (recsF R)) (st':=fin) (by unfold evalDrawF;rw[h1,cond_true,h2]) h3
   rcases bif_elim h with⟨_,h⟩|⟨_,h⟩
   ·obtain⟨⟨R,fin⟩,h2,h3⟩:=eK_ok h;exact sat_draw_eff hm hc (f':=putsR f (recsOf R)) (st':=fin) (by unfold evalDrawE;rw[h1,cond_true,h2]) h3
   obtain⟨R,h2,h3⟩:=rK_ok h;exact sat_draw_mem hm hc (f':=putsR f R) (st':=st++blksR R) (by unfold evalDraw;rw[h1,cond_true,h2]) h3
  ·exact h.elim
abbrev Trans:=Fr→St→(Exit→Fr→St→Prop)→Prop
def iterK(body:Trans):Nat→Trans
 |0=>fun _ _ _=>False
 |n+1=>fun f st K=>body f st (fun e f s=>match e with
  |.normal=>iterK body n f s K
  |e=>K e f s)
def rangeK(P:Program)(ck:CallK)(ro:Option Nat)(g:Operand)(ps:Array Tmp)(as bd:Code)(f:Fr)(st:St)(K:Exit→Fr→St→Prop):Prop:=
 match ev f.T.get g with
 |some (.func (.func h) fs cs)=>bif plainFn P h then
   match ro with
   |none=>ck (.fn h) (fs++[.yield (st.length+1)]++cs) (st++[.defd,.loop .ready none f.sz f.T ps as bd st.length]) (fun _ s2=>match s2[st.length+1]? with
    |some (.loop .busy _ _ _ _ _ _ _)=>False
    |some (.loop _ pend _ _ _ _ _ _)=>afterLoop K ⟨f.sz,f.T,st.length::f.defs⟩ (s2.set (st.length+1) .dead) pend
    |_=>False)
   |some l0=>match st[l0]? with
    |some (.loop _ _ _ _ _ _ _ dn0)=>ck (.fn h) (fs++[.yield st.length]++cs) (st++[.loop .ready none f.sz f.T ps as bd dn0]) (fun _ s2=>match s2[st.length]? with
     |some (.loop .busy _ _ _ _ _ _ _)=>False
     |some (.loop _ pend _ _ _ _ _ _)=>afterLoop K f (s2.set st.length .dead) pend
     |_=>False)
    |_=>False
  else False
 |_=>False
theorem rangeK_ok(hk:CallKOk P ck){g:Operand}{ps:Array Tmp}{as bd:Code}{Q:Exit→Fr→St→Prop}(h:rangeK P ck ro g ps as bd f st Q):CodeSat P ro (.rangeFunc g ps as bd) f st Q:=by
 unfold rangeK at h;split at h
 ·rename_i h0 fs cs hg;rcases bif_elim h with⟨hp,h⟩|⟨_,h⟩
  ·split at h
   ·refine sat_range hg hp ((hk (.fn h0) _ _ _ h).mono ?_);intro v s2 hq;split at hq
    ·exact hq.elim
    ·rename_i hne hl;exact⟨_,_,_,_,_,_,_,_,hl,fun e=>hne e,hq⟩
    ·exact hq.elim
   ·split at h
    ·rename_i hl0;refine sat_range_in hg hp hl0 ((hk (.fn h0) _ _ _ h).mono ?_);intro v s2 hq;split at hq
     ·exact hq.elim
     ·rename_i hne hl;exact⟨_,_,_,_,_,_,_,_,hl,fun e=>hne e,hq⟩
     ·exact hq.elim
    ·exact h.elim
  ·exact h.elim
 ·exact h.elim
def jumpK(P:Program)(cq:CallQ)(ro:Option Nat)(c:Code)(K:Exit→Fr→St→Prop):Exit→Fr→St→Prop
 |.goto l,f,s=>match findLabel c l with
  |some rest=>match evalCode P (unq cq) 100 ro rest f s with
   |some (.goto _,_,_)=>False
   |some (e,f',s')=>K e f' s'
   |none=>False
  |none=>False
 |e,f,s=>K e f s
theorem jumpK_ok{P:Program}{cq:CallQ}(hm:P.follows .mixedOrders=true)(hc:CallOk P (unq cq)){ro:Option Nat}{c:Code}{K:Exit→Fr→St→Prop}:∀(e:Exit) (f:Fr) (s:St),jumpK P cq ro c K e f s→Jump P ro c K e f s:=by
 intro e f s h;cases e with
 |goto l=>
  simp only[jumpK]at h;split at h
  ·rename_i rest hf;refine⟨rest,hf,?_⟩;split at h
   ·exact h.elim
   ·rename_i e' f' s' hne he;refine(evalCode_ok hm hc ro rest f s _ he).mono ?_;rintro e3 f3 s3 hq;cases hq;cases e' with
    |goto l3=>exact(hne _ rfl).elim
    |_=>exact h
   ·exact h.elim
  ·exact h.elim
 |_=>exact h
def codeK(P:Program)(cq:CallQ)(ck:CallK)(lk:Nat→Trans→Trans)(ro:Option Nat):Nat→Code→Trans
 |_,.skip=>fun f st K=>K .normal f st
 |_,.label _=>fun f st K=>K .normal f st
 |_,.ret=>fun f st K=>K .ret f st
 |_,.exit id=>fun f st K=>K (.exit id) f st
 |_,.region _ ops false=>fun f st K=>opsK P ck ops ops.toList f st (K .normal)
 |_,.region _ ops true=>fun f st K=>drawK P cq ops f st (K .normal)
 |p,.seq a b=>fun f st K=>codeK P cq ck lk ro (2*p) a f st (fun e f s=>match e with
  |.normal=>codeK P cq ck lk ro (2*p+1) b f s K
  |e=>K e f s)
 |p,.cond c x y=>fun f st K=>match ev f.T.get c with
  |some (.bool b)=>match c with
   |.tmp t=>bif b then codeK P cq ck lk ro (2*p) x (f.put (some t) (.bool true)) st K else codeK P cq ck lk ro (2*p+1) y (f.put (some t) (.bool false)) st K
   |_=>bif b then codeK P cq ck lk ro (2*p) x f st K else codeK P cq ck lk ro (2*p+1) y f st K
  |_=>False
 |p,.block id c=>fun f st K=>codeK P cq ck lk ro (2*p) c f st (fun e f s=>match e with
  |.exit id'=>bif Nat.beq id' id then K .normal f s else K (.exit id') f s
  |e=>K e f s)
 |p,.loop c=>fun f st K=>lk p (fun f st K=>codeK P cq ck lk ro (2*p) c f st K) f st K
 |_,.rangeFunc g ps as bd=>fun f st K=>rangeK P ck ro g ps as bd f st K
 |_,.goto l=>fun f st K=>K (.goto l) f st
 |p,.scope c=>fun f st K=>codeK P cq ck lk ro (2*p) c f st (jumpK P cq ro c K)
 |_,_=>fun _ _ _=>False
def LoopsOk(P:Program)(ro:Option Nat)(lk:Nat→Trans→Trans):Nat→Code→Prop
 |p,.seq a b=>LoopsOk P ro lk (2*p) a∧LoopsOk P ro lk (2*p+1) b
 |p,.cond _ a b=>LoopsOk P ro lk (2*p) a∧LoopsOk P ro lk (2*p+1) b
 |p,.block _ c=>LoopsOk P ro lk (2*p) c
 |p,.scope c=>LoopsOk P ro lk (2*p) c
 |p,.loop c=>LoopsOk P ro lk (2*p) c∧∀body:Trans,(∀f st Q,body f st Q→CodeSat P ro c f st Q)→∀f st Q,lk p body f st Q→CodeSat P ro (.loop c) f st Q
 |_,_=>True
theorem sat_iterK{c:Code}{body:Trans}(hb:∀f st Q,body f st Q→CodeSat P ro c f st Q){Q:Exit→Fr→St→Prop}{n:Nat}(h:iterK body n f st Q):CodeSat P ro (.loop c) f st Q:=by
 refine sat_loop (α:={x:Nat×Fr×St//iterK body x.1 x.2.1 x.2.2 Q}) (fun x=>x.1.2.1) (fun x=>x.1.2.2) (fun x=>x.1.1) ⟨(n,f,st),h⟩ (Less.refl _) rfl ?_;rintro⟨⟨k,g,s⟩,hk⟩;cases k with
 |zero=>exact hk.elim
 |succ k=>
  refine(hb g s _ hk).mono ?_;intro e f' s' hq;cases e with
  |normal=>exact⟨⟨(k,f',s'),hq⟩,Less.refl _,rfl,Nat.lt_succ_self k⟩
  |_=>exact hq
theorem codeK_ok(hm:P.follows .mixedOrders=true)(hc:CallOk P (unq cq))(hk:CallKOk P ck){lk:Nat→Trans→Trans}:∀(c:Code) (p:Nat),LoopsOk P ro lk p c→∀(f:Fr) (st:St) (Q:Exit→Fr→St→Prop),codeK P cq ck lk ro p c f st Q→CodeSat P ro c f st Q
 |.skip,p,hl,f,st,Q,h=>sat_skip h
 |.label _,p,hl,f,st,Q,h=>sat_label h
 |.ret,p,hl,f,st,Q,h=>sat_ret h
 |.exit id,p,hl,f,st,Q,h=>sat_exit h
 |.region id ops false,p,hl,f,st,Q,h=>by
  simp only[codeK]at h;intro B W0 m a w F h1 h2 h3;refine wpIn_region ?_;have:=opsK_ok hk (ro:=ro) (F:=F) (Q:=Post B W0 m Q) ops.toList 0 (fun j=>by simp) f st h B W0 w m a h1 h2 h3 (fun a w ⟨m',f2,s2,e1,e2,e3,e4⟩=>⟨m',_,_,e1,e2,e3,e4⟩);simpa[List.range_eq_range']using this
 |.region id ops true,p,hl,f,st,Q,h=>drawK_ok hm hc h
 |.seq a b,p,hl,f,st,Q,h=>by
  simp only[codeK]at h;refine sat_seq ((codeK_ok hm hc hk a (2*p) hl.1 f st _ h).mono ?_);intro e f' s' hq;cases e with
  |normal=>exact codeK_ok hm hc hk b (2*p+1) hl.2 f' s' Q hq
  |_=>exact hq
 |.cond c x y,p,hl,f,st,Q,h=>by
  simp only[codeK]at h;split at h
  ·rename_i b hb;split at h
   ·rename_i t;rcases bif_elim h with⟨rfl,h⟩|⟨rfl,h⟩
    ·refine sat_cond hb (CodeSat.less (g:=f.put (some t) (.bool true)) (fun m a ha=>ha.known hb) ?_);exact codeK_ok hm hc hk x (2*p) hl.1 _ st Q h
    ·refine sat_cond hb (CodeSat.less (g:=f.put (some t) (.bool false)) (fun m a ha=>ha.known hb) ?_);exact codeK_ok hm hc hk y (2*p+1) hl.2 _ st Q h
   ·rcases bif_elim h with⟨rfl,h⟩|⟨rfl,h⟩
    ·exact sat_cond hb (codeK_ok hm hc hk x (2*p) hl.1 _ st Q h)
    ·exact sat_cond hb (codeK_ok hm hc hk y (2*p+1) hl.2 _ st Q h)
  ·exact h.elim
 |.block id c,p,hl,f,st,Q,h=>by
  simp only[codeK]at h;refine sat_block ((codeK_ok hm hc hk c (2*p) hl f st _ h).mono ?_);intro e f' s' hq;cases e with
  |exit id'=>
   simp only[Blocked];rcases bif_elim hq with⟨h1,hq⟩|⟨h1,hq⟩
   ·rw[if_pos (Nat.eq_of_beq_eq_true h1)];exact hq
   ·rw[if_neg (fun q=>by rw[q,Nat.beq_refl]at h1;cases h1)];exact hq
  |_=>exact hq
 |.loop c,p,hl,f,st,Q,h=>by
  simp only[codeK]at h;exact hl.2 _ (fun f st Q hq=>codeK_ok hm hc hk c (2*p) hl.1 f st Q hq) f st Q h
 |.rangeFunc g ps as bd,p,hl,f,st,Q,h=>rangeK_ok hk h
 |.scope c,p,hl,f,st,Q,h=>by
  simp only[codeK]at h;exact sat_scope ((codeK_ok hm hc hk c (2*p) hl f st _ h).mono (jumpK_ok hm hc))
 |.goto _,p,hl,f,st,Q,h=>sat_goto h
 |.refuse _,p,hl,f,st,Q,h=>by simp[codeK]at h
def leaveK(P:Program)(fn:Func)(Q:V→St→Prop):Exit→Fr→St→Prop
 |.normal,f,st=>optK (leaveV P fn f st) (fun r=>Q r.1 r.2)
 |.ret,f,st=>optK (leaveV P fn f st) (fun r=>Q r.1 r.2)
 |_,_,_=>False
def fnK(P:Program)(cq:CallQ)(ck:CallK)(lk:Nat→Trans→Trans)(g:FuncId)(args:List V)(st:St)(Q:V→St→Prop):Prop:=
 match P.funcs[g]? with
 |some fn=>match fn.body with
  |some c=>bif Nat.ble args.length fn.ntmps then codeK P cq ck lk none 1 c ⟨fn.ntmps,initT 0 .lf args,[]⟩ st (leaveK P fn Q)else False
  |none=>False
 |none=>False
def rounds(lim:Nat):Nat→Trans→Trans:=fun _ body=>iterK body lim
theorem rounds_ok(lim:Nat):∀(c:Code) (p:Nat),LoopsOk P ro (rounds lim) p c
 |.seq a b,p=>⟨rounds_ok lim a _,rounds_ok lim b _⟩
 |.cond _ a b,p=>⟨rounds_ok lim a _,rounds_ok lim b _⟩
 |.block _ c,p=>rounds_ok lim c _
 |.scope c,p=>rounds_ok lim c _
 |.loop c,p=>⟨rounds_ok lim c _,fun body hb f st Q h=>sat_iterK hb h⟩
 |.skip,_|.label _,_|.ret,_|.exit _,_|.region ..,_|.rangeFunc ..,_|.goto _,_|.refuse _,_=>trivial
def yldK(P:Program)(cq:CallQ)(ck:CallK)(lk:Nat→Trans→Trans)(l:Nat)(args:List V)(st:St)(Q:V→St→Prop):Prop:=
 match st[l]? with
 |some (.loop .ready none sz T ps as bd dn)=>bif Nat.beq args.length ps.size&&ps.toList.all (fun t=>Nat.blt t sz)then
   codeK P cq ck lk (some l) 1 as ⟨sz,putAll T ps.toList args,[]⟩ st (fun e f1 s1=>match e with
    |.normal=>match s1[l]? with
     |some (.loop .ready none sz' T' ps' as' bd' dn')=>codeK P cq ck lk (some l) 1 bd f1 (s1.set l (.loop .busy none sz' T' ps' as' bd' dn')) (fun e f2 s2=>match s2[l]? with
      |some (.loop _ _ sz2 T2 ps2 as2 bd2 dn2)=>match jumpOf e with
       |some j=>Q (.bool j.isNone) (s2.set l (.loop (if j.isNone then .ready else .done) j sz2 T2 ps2 as2 bd2 dn2))
       |none=>False
      |_=>False)
     |_=>False
    |_=>False)
  else False
 |_=>False
theorem yldK_ok(hm:P.follows .mixedOrders=true)(hc:CallOk P (unq cq))(hk:CallKOk P ck){l:Nat}{lk:Nat→Trans→Trans}(hl:∀c,LoopsOk P (some l) lk 1 c){args:List V}{Q:V→St→Prop}(h:yldK P cq ck lk l args st Q):YldSat P l args st Q:=by
 unfold yldK at h;split at h
 ·rename_i sz T ps as bd dn hlo;rcases bif_elim h with⟨hb,h⟩|⟨_,h⟩
  ·simp only[Bool.and_eq_true]at hb;refine sat_round hlo (Nat.eq_of_beq_eq_true hb.1) hb.2 ((codeK_ok hm hc hk as 1 (hl as) _ st _ h).mono ?_);intro e f1 s1 hq;cases e with
   |normal=>
    simp only at hq;split at hq
    ·rename_i sz' T' ps' as' bd' dn' hl1;refine⟨sz',T',ps',as',bd',dn',hl1,(codeK_ok hm hc hk bd 1 (hl bd) _ _ _ hq).mono ?_⟩;intro e f2 s2 hq;split at hq
     ·rename_i stt pend sz2 T2 ps2 as2 bd2 dn2 hl2;split at hq
      ·rename_i j hj;exact⟨j,stt,pend,sz2,T2,ps2,as2,bd2,dn2,hj,hl2,hq⟩
      ·exact hq.elim
     ·exact hq.elim
    ·exact hq.elim
   |_=>exact hq.elim
  ·exact h.elim
 ·exact h.elim
end
end Go.Vm
namespace Go.Vm
variable [G:Glob] [Φ:Frz] [Z:LstFlag]
set_option linter.unusedSectionVars false
set_option linter.unusedVariables false
open Go.RowKit
abbrev PureF:=FuncId→List V→Option V
section
variable {P:Program} {F:PureF} {lim n:Nat} {ro:Option Nat} {f:Fr} {st:St}
def loopsAt(p0:Nat):Nat→Code→List Code
 |p,.seq a b=>loopsAt p0 (2*p) a++loopsAt p0 (2*p+1) b
 |p,.cond _ a b=>loopsAt p0 (2*p) a++loopsAt p0 (2*p+1) b
 |p,.block _ c=>loopsAt p0 (2*p) c
 |p,.scope c=>loopsAt p0 (2*p) c
 |p,.loop c=>(bif Nat.beq p p0 then[c]else[])++loopsAt p0 (2*p) c
 |_,_=>[]
def bodyOf(P:Program)(g:FuncId):Code:=match P.funcs[g]? with
 |some fn=>fn.body.getD .skip
 |none=>.skip
def szOf(P:Program)(g:FuncId):Nat:=match P.funcs[g]? with
 |some fn=>fn.ntmps
 |none=>0
def loopOf(P:Program)(g:FuncId)(p0:Nat):Code:=(loopsAt p0 1 (bodyOf P g)).headD .skip
def withLoop(p0:Nat)(T:Trans)(lk:Nat→Trans→Trans):Nat→Trans→Trans:=fun p body=>bif Nat.beq p p0 then T else lk p body
def putsT(T:Tr):List (Nat×V)→Tr
 |[]=>T
 |(t,v)::r=>putsT (T.put t v) r
def frOf(sz:Nat)(l:List (Nat×V)):Fr:=⟨sz,putsT .lf l,[]⟩
theorem putsT_get:∀{l:List (Nat×V)} {T:Tr} {i:Nat} {u:V},(putsT T l).get i=some u→(i,u)∈l∨T.get i=some u
 |[],T,i,u,h=>.inr h
 |(t,v)::r,T,i,u,h=>by
  rcases putsT_get (l:=r) h with h|h
  ·exact .inl (List.mem_cons_of_mem _ h)
  ·rcases Tr.get_put h with⟨rfl,rfl⟩|⟨_,h⟩
   ·exact .inl List.mem_cons_self
   ·exact .inr h
def Has(f:Fr):List (Nat×V)→Prop
 |[]=>True
 |(t,v)::r=>f.T.get t=some v∧Has f r
theorem Has.mem{f:Fr}:∀{l:List (Nat×V)},Has f l→∀{t v},(t,v)∈l→f.T.get t=some v
 |(t',v')::r,h,t,v,hm=>by
  rcases List.mem_cons.1 hm with h1|h1
  ·cases h1;exact h.1
  ·exact Has.mem h.2 h1
theorem Less.of{f:Fr}{sz:Nat}{l:List (Nat×V)}(hs:f.sz=sz)(hd:f.defs=[])(h:Has f l):Less (frOf sz l) f:=by
 intro m a ha;refine⟨⟨by have:=ha.tmps.1;rw[hs]at this;exact this,fun t v hv=>?_⟩,by have:=ha.defers;rw[hd]at this;exact this⟩;rcases putsT_get hv with h1|h1
 ·exact ha.tmps.2 t v (h.mem h1)
 ·simp[Tr.get,Tr.getF]at h1
def okF(sz:Nat)(f:Fr):Bool:=Nat.beq f.sz sz&&(match f.defs with|[]=>true|_=>false)
theorem okF_spec{sz:Nat}{f:Fr}(h:okF sz f=true):f.sz=sz∧f.defs=[]:=by
 unfold okF at h;rw[Bool.and_eq_true]at h;refine⟨Nat.eq_of_beq_eq_true h.1,?_⟩;cases hd:f.defs with
 |nil=>rfl
 |cons=>rw[hd]at h;simp at h
end
end Go.Vm
namespace Go.Vm
variable [G:Glob] [Φ:Frz] [Z:LstFlag]
set_option linter.unusedSectionVars false
set_option linter.unusedVariables false
open Go.RowKit
mutual
/-- A value, its names by a list of others. -/
def renV(σ:List Nat):V→Option V
 |.ptr b off=>match σ[b]? with
  |some c=>some (.ptr c off)
  |none=>none
 |.slice b off len ex c z=>match σ[b]? with
  |some d=>some (.slice d off len ex c z)
  |none=>none
 |.yield b=>match σ[b]? with
  |some c=>some (.yield c)
  |none=>none
 |.map b=>match σ[b]? with
  |some c=>some (.map c)
  |none=>none
 |.nos b n=>match σ[b]? with
  |some c=>some (.nos c n)
  |none=>none
 |.func fn fs cs=>match renL σ fs,renL σ cs with
  |some x,some y=>some (.func fn x y)
  |_,_=>none
 |.iface t v=>match renV σ v with
  |some x=>some (.iface t x)
  |none=>none
 |.agg cs=>match renL σ cs with
  |some x=>some (.agg x)
  |none=>none
 |.tuple vs=>match renL σ vs with
  |some x=>some (.tuple x)
  |none=>none
 |.bool b=>some (.bool b)
 |.int k n=>some (.int k n)
 |.str l=>some (.str l)
 |.nilPtr=>some .nilPtr
 |.nilSlice=>some .nilSlice
 |.nilFunc=>some .nilFunc
 |.nilIface=>some .nilIface
 |.nilMap=>some .nilMap
 |.gp k off=>some (.gp k off)
 |.lst x n cs=>some (.lst x n cs)
 |.lptr x n cs o=>some (.lptr x n cs o)
def renL(σ:List Nat):List V→Option (List V)
 |[]=>some []
 |v::r=>match renV σ v,renL σ r with
  |some x,some l=>some (x::l)
  |_,_=>none
end
def renM(σ:List Nat)(m:List MB):List MB:=σ.map fun i=>(m[i]?).getD hole
theorem renM_at{σ:List Nat}{m:List MB}{b c:Nat}{e:MB}(hb:σ[b]?=some c)(he:at? m c=some e):at? (renM σ m) b=some e:=by
 have h1:=at_get he;refine at_of ?_ (at_solid he);unfold renM;rw[List.getElem?_map,hb];simp[h1]
mutual
theorem renV_ok{σ:List Nat}{m:List MB}:∀(v u:V) (x:Value),renV σ v=some u→real m u=some x→real (renM σ m) v=some x
 |.ptr b off,u,x,h,hx=>by
  simp only[renV]at h;cases hb:σ[b]? with
  |none=>simp[hb]at h
  |some c=>
   simp only[hb,Option.some.injEq]at h;subst h;obtain⟨e,he,rfl⟩:=real_ptr hx;simp only[real,renM_at hb he]
 |.slice b off len ex c z,u,x,h,hx=>by
  simp only[renV]at h;cases hb:σ[b]? with
  |none=>simp[hb]at h
  |some d=>
   simp only[hb,Option.some.injEq]at h;subst h;simp only[real]at hx ⊢;cases he:at? m d with
   |none=>simp[he]at hx
   |some e=>simp only[he]at hx;simp only[renM_at hb he];exact hx
 |.map b,u,x,h,hx=>by
  simp only[renV]at h;cases hb:σ[b]? with
  |none=>simp[hb]at h
  |some c=>
   simp only[hb,Option.some.injEq]at h;subst h;simp only[real]at hx ⊢;cases he:at? m c with
   |none=>simp[he]at hx
   |some e=>simp only[he]at hx;simp only[renM_at hb he];exact hx
 |.nos b n,u,x,h,hx=>by
  simp only[renV]at h;cases hb:σ[b]? with
  |none=>simp[hb]at h
  |some c=>
   simp only[hb,Option.some.injEq]at h;subst h;simp only[real]at hx ⊢;cases he:at? m c with
   |none=>simp[he]at hx
   |some e=>simp only[he]at hx;simp only[renM_at hb he];exact hx
 |.yield b,u,x,h,hx=>by
  simp only[renV]at h;cases hb:σ[b]? with
  |none=>simp[hb]at h
  |some c=>
   simp only[hb,Option.some.injEq]at h;subst h;simp only[real]at hx ⊢;cases he:at? m c with
   |none=>simp[he]at hx
   |some e=>simp only[he]at hx;simp only[renM_at hb he];exact hx
 |.func fn fs cs,u,x,h,hx=>by
  simp only[renV]at h;cases h1:renL σ fs with
  |none=>simp[h1]at h
  |some a=>
   cases h2:renL σ cs with
   |none=>simp[h1,h2]at h
   |some b=>
    simp only[h1,h2,Option.some.injEq]at h;subst h;simp only[real]at hx ⊢;cases g1:realL m a with
    |none=>simp[g1]at hx
    |some xs=>
     cases g2:realL m b with
     |none=>simp[g1,g2]at hx
     |some ys=>simp only[g1,g2]at hx;simp only[renL_ok fs a xs h1 g1,renL_ok cs b ys h2 g2];exact hx
 |.iface t v,u,x,h,hx=>by
  simp only[renV]at h;cases h1:renV σ v with
  |none=>simp[h1]at h
  |some a=>
   simp only[h1,Option.some.injEq]at h;subst h;simp only[real]at hx ⊢;cases g1:real m a with
   |none=>simp[g1]at hx
   |some y=>simp only[g1]at hx;simp only[renV_ok v a y h1 g1];exact hx
 |.agg cs,u,x,h,hx=>by
  simp only[renV]at h;cases h1:renL σ cs with
  |none=>simp[h1]at h
  |some a=>
   simp only[h1,Option.some.injEq]at h;subst h;simp only[real]at hx ⊢;cases g1:realL m a with
   |none=>simp[g1]at hx
   |some y=>simp only[g1]at hx;simp only[renL_ok cs a y h1 g1];exact hx
 |.tuple cs,u,x,h,hx=>by
  simp only[renV]at h;cases h1:renL σ cs with
  |none=>simp[h1]at h
  |some a=>
   simp only[h1,Option.some.injEq]at h;subst h;simp only[real]at hx ⊢;cases g1:realL m a with
   |none=>simp[g1]at hx
   |some y=>simp only[g1]at hx;simp only[renL_ok cs a y h1 g1];exact hx
 |.bool _,u,x,h,hx|.int _ _,u,x,h,hx|.str _,u,x,h,hx|.nilPtr,u,x,h,hx|.nilSlice,u,x,h,hx|.nilFunc,u,x,h,hx|.nilIface,u,x,h,hx|.nilMap,u,x,h,hx|.gp _ _,u,x,h,hx|.lst ..,u,x,h,hx|.lptr ..,u,x,h,hx=>by
  simp only[renV,Option.some.injEq]at h;subst h;simpa only[real]using hx
theorem renL_ok{σ:List Nat}{m:List MB}:∀(l l':List V) (x:List Value),renL σ l=some l'→realL m l'=some x→realL (renM σ m) l=some x
 |[],l',x,h,hx=>by simp only[renL,Option.some.injEq]at h;subst h;simpa[realL]using hx
 |v::r,l',x,h,hx=>by
  simp only[renL]at h;cases h1:renV σ v with
  |none=>simp[h1]at h
  |some a=>
   cases h2:renL σ r with
   |none=>simp[h1,h2]at h
   |some b=>
    simp only[h1,h2,Option.some.injEq]at h;subst h;obtain⟨y,ys,g1,g2,rfl⟩:=realL_cons hx;exact realL_mk (renV_ok v a y h1 g1) (renL_ok r b ys h2 g2)
end
theorem renL_get{σ:List Nat}:∀{l l':List V} {i:Nat} {v:V},renL σ l=some l'→l[i]?=some v→∃u,renV σ v=some u∧l'[i]?=some u
 |[],l',i,v,h,hi=>by simp at hi
 |w::r,l',i,v,h,hi=>by
  simp only[renL]at h;cases h1:renV σ w with
  |none=>simp[h1]at h
  |some a=>
   cases h2:renL σ r with
   |none=>simp[h1,h2]at h
   |some b=>
    simp only[h1,h2,Option.some.injEq]at h;subst h;cases i with
    |zero=>simp only[List.getElem?_cons_zero,Option.some.injEq]at hi;subst hi;exact⟨a,h1,rfl⟩
    |succ i=>
     simp only[List.getElem?_cons_succ]at hi ⊢;exact renL_get h2 hi
def renO(σ:List Nat):Option V→Option (Option V)
 |none=>some none
 |some v=>match renV σ v with
  |some u=>some (some u)
  |none=>none
def renT(σ:List Nat):Tr→Option Tr
 |.lf=>some .lf
 |.nd l v r=>match renT σ l,renO σ v,renT σ r with
  |some a,some u,some b=>some (.nd a u b)
  |_,_,_=>none
theorem renT_getF{σ:List Nat}:∀(f:Nat) (T T':Tr) (k:Nat) (v:V),renT σ T=some T'→Tr.getF f T k=some v→∃u,renV σ v=some u∧Tr.getF f T' k=some u
 |0,_,_,_,_,_,h=>by simp[Tr.getF]at h
 |f+1,.lf,_,_,_,_,h=>by simp[Tr.getF]at h
 |f+1,.nd l v r,T',k,u,h,hk=>by
  simp only[renT]at h;cases h1:renT σ l with
  |none=>simp[h1]at h
  |some a=>
   cases h2:renO σ v with
   |none=>simp[h1,h2]at h
   |some b=>
    cases h3:renT σ r with
    |none=>simp[h1,h2,h3]at h
    |some c=>
     simp only[h1,h2,h3,Option.some.injEq]at h;subst h;cases k with
     |zero=>
      simp only[Tr.getF]at hk ⊢;subst hk;simp only[renO]at h2;cases h4:renV σ u with
      |none=>simp[h4]at h2
      |some x=>simp only[h4,Option.some.injEq]at h2;subst h2;exact⟨x,rfl,rfl⟩
     |succ j=>
      simp only[Tr.getF]at hk ⊢;cases hb:Nat.beq (j%2) 0 with
      |true=>rw[hb,cond_true]at hk;exact renT_getF f l a (j/2) u h1 hk
      |false=>rw[hb,cond_false]at hk;exact renT_getF f r c (j/2) u h3 hk
def renB(σ:List Nat):Blk→Option Blk
 |.dead=>some .dead
 |.ro own cs=>match renL σ cs with
  |some x=>some (.ro own x)
  |none=>none
 |.row cs t sz=>match renL σ cs with
  |some x=>some (.row x t sz)
  |none=>none
 |.defd=>some .defd
 |.mpu=>some .mpu
 |.mp cs=>match renL σ cs with
  |some x=>some (.mp x)
  |none=>none
 |.sit s p=>some (.sit s p)
 |.loop s p sz T ps as bd d=>match renT σ T,σ[d]? with
  |some T',some d'=>some (.loop s p sz T' ps as bd d')
  |_,_=>none
theorem renB_ok{σ:List Nat}{m:List MB}{B:Nat}{w:World}{e:MB}:∀{b b':Blk},renB σ b=some b'→BlkOk B m w e b'→BlkOk B (renM σ m) w e b
 |.dead,_,_,_=>trivial
 |.ro own cs,b',h,hb=>by
  simp only[renB]at h;cases h1:renL σ cs with
  |none=>simp[h1]at h
  |some x=>
   simp only[h1,Option.some.injEq]at h;subst h;obtain⟨g1,arr,t,fz,g2,g3⟩:=hb;refine⟨g1,arr,t,fz,g2,fun i v hv=>?_⟩;obtain⟨u,k1,k2⟩:=renL_get h1 hv;obtain⟨y,k3,k4⟩:=g3 i u k2;exact⟨y,renV_ok v u y k1 k3,k4⟩
 |.row cs t sz,b',h,hb=>by
  simp only[renB]at h;cases h1:renL σ cs with
  |none=>simp[h1]at h
  |some x=>
   simp only[h1,Option.some.injEq]at h;subst h;obtain⟨g1,g2,arr,xs,g3,g4,g5⟩:=hb;exact⟨g1,g2,arr,xs,g3,renL_ok cs x xs h1 g4,g5⟩
 |.defd,b',h,hb=>by simp only[renB,Option.some.injEq]at h;subst h;exact hb
 |.mpu,b',h,hb=>by simp only[renB,Option.some.injEq]at h;subst h;exact hb
 |.mp cs,b',h,hb=>by
  simp only[renB]at h;cases h1:renL σ cs with
  |none=>simp[h1]at h
  |some x=>
   simp only[h1,Option.some.injEq]at h;subst h;obtain⟨g1,es,c,xs,g3,g4,g5⟩:=hb;exact⟨g1,es,c,xs,g3,renL_ok cs x xs h1 g4,g5⟩
 |.sit s p,b',h,hb=>by simp only[renB,Option.some.injEq]at h;subst h;exact hb
 |.loop s p sz T ps as bd d,b',h,hb=>by
  simp only[renB]at h;cases h1:renT σ T with
  |none=>simp[h1]at h
  |some T'=>
   cases h2:σ[d]? with
   |none=>simp[h1,h2]at h
   |some d'=>
    simp only[h1,h2,Option.some.injEq]at h;subst h;obtain⟨g1,fn,tmps,dd,g2,g3,g4⟩:=hb;refine⟨g1,fn,tmps,dd,renM_at h2 g2,g3,g4.1,fun t v hv=>?_⟩;obtain⟨u,k1,k2⟩:=renT_getF 12 T T' t v h1 hv;obtain⟨y,k3,k4⟩:=g4.2 t u k2;exact⟨y,k3,renV_ok v u y k1 k4⟩
theorem renB_rw{σ:List Nat}{b b':Blk}(h:renB σ b=some b'):(b.rw=true→b'.rw=true)∧(b.live=true→b'.live=true):=by
 cases b<;>simp only[renB]at h
 all_goals first|(cases h;exact⟨fun h=>h,fun h=>h⟩)|(split at h<;>cases h;exact⟨fun h=>h,fun h=>h⟩)
def FitT(σ:List Nat)(T T2:Tr):Prop:=∀t v,T.get t=some v→∃u,renV σ v=some u∧T2.get t=some u
theorem FitT.of{σ:List Nat}{T2:Tr}:∀{l:List (Nat×V)},(∀t v,(t,v)∈l→∃u,renV σ v=some u∧T2.get t=some u)→FitT σ (putsT .lf l) T2:=by
 intro l h t v hv;rcases putsT_get hv with h1|h1
 ·exact h t v h1
 ·simp[Tr.get,Tr.getF]at h1
def FitB(σ:List Nat)(b b':Blk):Prop:=
 renB σ b=some b'∨∃s p sz T ps as bd d T' d',b=.loop s p sz T ps as bd d∧b'=.loop s p sz T' ps as bd d'∧σ[d]?=some d'∧FitT σ T T'
theorem FitB.ok{σ:List Nat}{m:List MB}{B:Nat}{w:World}{e:MB}{b b':Blk}(h:FitB σ b b')(hb:BlkOk B m w e b'):BlkOk B (renM σ m) w e b:=by
 rcases h with h|⟨s,p,sz,T,ps,as,bd,d,T',d',rfl,rfl,h2,h1⟩
 ·exact renB_ok h hb
 ·obtain⟨g1,fn,tmps,dd,g2,g3,g4⟩:=hb;refine⟨g1,fn,tmps,dd,renM_at h2 g2,g3,g4.1,fun t v hv=>?_⟩;obtain⟨u,k1,k2⟩:=h1 t v hv;obtain⟨y,k3,k4⟩:=g4.2 t u k2;exact⟨y,k3,renV_ok v u y k1 k4⟩
theorem FitB.rw{σ:List Nat}{b b':Blk}(h:FitB σ b b'):(b.rw=true→b'.rw=true)∧(b.live=true→b'.live=true):=by
 rcases h with h|⟨s,p,sz,T,ps,as,bd,d,T',d',rfl,rfl,h2,h1⟩
 ·exact renB_rw h
 ·exact⟨fun h=>h,fun h=>h⟩
def FitsM(σ:List Nat)(s st:St):Prop:=σ.length=s.length∧∀(i c:Nat) (b:Blk),σ[i]?=some c→s[i]?=some b→b≠.dead→∃b',FitB σ b b'∧st[c]?=some b'
def FitsL(σ:List Nat)(st:St):List Nat→St→Prop
 |[],[]=>True
 |c::r,b::s=>(b=.dead∨∃b',FitB σ b b'∧st[c]?=some b')∧FitsL σ st r s
 |_,_=>False
theorem FitsL.spec{σ:List Nat}{st:St}:∀{l:List Nat} {s:St},FitsL σ st l s→l.length=s.length∧∀(i c:Nat) (b:Blk),l[i]?=some c→s[i]?=some b→b≠.dead→∃b',FitB σ b b'∧st[c]?=some b'
 |[],[],_=>⟨rfl,fun i c b h=>by simp at h⟩
 |c::r,b::s,h=>by
  obtain⟨h1,h2⟩:=FitsL.spec h.2;refine⟨by simp[h1],fun i c' b' hi hb hd=>?_⟩;cases i with
  |zero=>
   simp only[List.getElem?_cons_zero,Option.some.injEq]at hi hb;subst hi hb;rcases h.1 with h3|h3
   ·exact absurd h3 hd
   ·exact h3
  |succ i=>exact h2 i c' b' (by simpa using hi) (by simpa using hb) hd
 |[],_::_,h=>h.elim
 |_::_,[],h=>h.elim
theorem FitsM.of{σ:List Nat}{s st:St}(h:FitsL σ st σ s):FitsM σ s st:=h.spec
theorem Rel.ren{B:Nat}{W0 w:World}{m:List MB}{st s:St}{σ:List Nat}(h:Rel B W0 m st w)(hn:σ.Nodup)(hf:FitsM σ s st):Rel B W0 (renM σ m) s w:=by
 have look:∀{i:Nat} {b:Blk} {e:MB},s[i]?=some b→b≠.dead→(renM σ m)[i]?=some e→∃c b',σ[i]?=some c∧FitB σ b b'∧st[c]?=some b'∧m[c]?=some e:=by
  intro i b e hs hd he;unfold renM at he;rw[List.getElem?_map]at he;cases hc:σ[i]? with
  |none=>rw[hc]at he;cases he
  |some c=>
   rw[hc]at he;obtain⟨b',h1,h2⟩:=hf.2 i c b hc hs hd;obtain⟨e',h3,_⟩:=h.at h2;simp only[Option.map_some,h3,Option.getD_some,Option.some.injEq]at he;subst he;exact⟨c,b',rfl,h1,h2,h3⟩
 refine⟨by simp[renM,hf.1],h.base,h.below,fun i b e hb he=>?_,fun i j b c d e hij hb hrw hc hlv hd he=>?_,h.glob⟩
 ·by_cases hdead:b=.dead
  ·subst hdead;trivial
  ·obtain⟨c,b',h1,h2,h3,h4⟩:=look hb hdead he;exact h2.ok (h.blk c b' e h3 h4)
 ·obtain⟨k1,b1,g1,g2,g3,g4⟩:=look hb (by rintro rfl;cases hrw) hd;obtain⟨k2,b2,l1,l2,l3,l4⟩:=look hc (by rintro rfl;cases hlv) he;refine h.inj k1 k2 b1 b2 d e ?_ g3 (g2.rw.1 hrw) l3 (l2.rw.2 hlv) g4 l4;rintro rfl;exact hij ((List.getElem?_inj (List.getElem?_eq_some_iff.1 g1).1 hn).1 (g1.trans l1.symm))
def PostW(B:Nat)(W0:World)(M0:List MB)(Q:Exit→Fr→St→Prop):Exit→Act→World→Prop:=
 fun e a w=>∃m' f st,Ext M0 m'∧AOk m' f a∧Rel B W0 m' st w∧Q e f st
def CodeSatW(P:Program)(ro:Option Nat)(k:Nat)(c:Code)(f:Fr)(st:St)(Q:Exit→Fr→St→Prop):Prop:=
 ∀B W0 M0 m a w F,M0.length≤k→Ext M0 m→FOk M0 ro F→AOk m f a→Rel B W0 m st w→c.wpIn F 0 P (PostW B W0 M0 Q) a w
def Keeps(k:Nat)(σ:List Nat):Prop:=∀i,i<k→σ[i]?=some i
theorem keeps_ext{k:Nat}{σ:List Nat}{M0 m:List MB}(hk:Keeps k σ)(hl:M0.length≤k)(he:Ext M0 m):Ext M0 (renM σ m):=by
 intro b e hb;have hlt:b<k:=Nat.lt_of_lt_of_le (List.getElem?_eq_some_iff.1 hb).1 hl;unfold renM;rw[List.getElem?_map,hk b hlt];simp[he b e hb]
def Fits(k:Nat)(vs:List V)(s:St)(l:List (Option V))(st:St):Prop:=
 ∃σ us,l=us.map some∧renL σ vs=some us∧FitsM σ s st∧σ.Nodup∧Keeps k σ
section
variable {P:Program} {cq:CallQ} {ck:CallK} {lim n:Nat} {ro:Option Nat} {k:Nat} {f:Fr} {st:St} {Q:Exit→Fr→St→Prop}
theorem CodeSatW.of{c:Code}(h:CodeSat P ro c f st Q):CodeSatW P ro k c f st Q:=by
 intro B W0 M0 m a w F hl he hF hA hr;refine wpIn_mono (h B W0 m a w F (hF.mono he) hA hr) ?_;rintro e a' w' ⟨m',f',st',e1,e2,e3,e4⟩;exact⟨m',f',st',he.trans e1,e2,e3,e4⟩
theorem CodeSatW.mono{c:Code}{Q':Exit→Fr→St→Prop}(h:CodeSatW P ro k c f st Q)(hq:∀e f s,Q e f s→Q' e f s):CodeSatW P ro k c f st Q':=by
 intro B W0 M0 m a w F hl he hF hA hr;refine wpIn_mono (h B W0 M0 m a w F hl he hF hA hr) ?_;rintro e a' w' ⟨m',f',st',e1,e2,e3,e4⟩;exact⟨m',f',st',e1,e2,e3,hq _ _ _ e4⟩
theorem CodeSatW.less{c:Code}{g:Fr}(hl:Less g f)(h:CodeSatW P ro k c g st Q):CodeSatW P ro k c f st Q:=
 fun B W0 M0 m a w F h0 h1 h2 h3 h4=>h B W0 M0 m a w F h0 h1 h2 (hl m a h3) h4
theorem satW_seq{x y:Code}(h:CodeSatW P ro k x f st (Nxt (fun f s=>CodeSatW P ro k y f s Q) Q)):CodeSatW P ro k (.seq x y) f st Q:=by
 intro B W0 M0 m a w F hl he hF hA hr;refine wpIn_seq (wpIn_mono (h B W0 M0 m a w F hl he hF hA hr) ?_);rintro e a' w' ⟨m',f',st',e1,e2,e3,e4⟩;cases e with
 |normal=>exact e4 B W0 M0 m' a' w' F hl e1 hF e2 e3
 |_=>exact⟨m',f',st',e1,e2,e3,e4⟩
theorem satW_cond{c:Operand}{x y:Code}{b:Bool}(hc:ev f.T.get c=some (.bool b))(h:CodeSatW P ro k (if b then x else y) f st Q):CodeSatW P ro k (.cond c x y) f st Q:=
 fun B W0 M0 m a w F hl he hF hA hr=>wpIn_cond (real_bool (hA.ev _ _ hc)) (h B W0 M0 m a w F hl he hF hA hr)
theorem satW_scope{c:Code}(h:CodeSatW P ro k c f st (Jump P ro c Q)):CodeSatW P ro k (.scope c) f st Q:=by
 intro B W0 M0 m a w F hl he hF hA hr;refine wpIn_scope (wpIn_mono (h B W0 M0 m a w F hl he hF hA hr) ?_);rintro e a' w' ⟨m',f',st',e1,e2,e3,e4⟩;cases e with
 |goto l=>
  obtain⟨rest,h1,h2⟩:=e4;refine⟨rest,h1,wpIn_mono (h2 B W0 m' a' w' F (hF.mono e1) e2 e3) ?_⟩;rintro e5 a5 w5 ⟨m5,f5,s5,q1,q2,q3,q4⟩;cases e5 with
  |goto l5=>exact q4.elim
  |_=>exact⟨m5,f5,s5,e1.trans q1,q2,q3,q4⟩
 |_=>exact⟨m',f',st',e1,e2,e3,e4⟩
theorem satW_block{id:Nat}{c:Code}(h:CodeSatW P ro k c f st (Blocked id Q)):CodeSatW P ro k (.block id c) f st Q:=by
 intro B W0 M0 m a w F hl he hF hA hr;refine wpIn_block (wpIn_mono (h B W0 M0 m a w F hl he hF hA hr) ?_);rintro e a' w' ⟨m',f',st',e1,e2,e3,e4⟩;cases e with
 |exit id'=>
  simp only[Exit.inBlock,Blocked]at e4 ⊢;split
  ·rename_i h;rw[if_pos h]at e4;exact⟨m',f',st',e1,e2,e3,e4⟩
  ·rename_i h;rw[if_neg h]at e4;exact⟨m',f',st',e1,e2,e3,e4⟩
 |_=>exact⟨m',f',st',e1,e2,e3,e4⟩
theorem fits_frame{ts:List Nat}{sz:Nat}{vs us:List V}{σ:List Nat}{m:List MB}{a:Act}(ho:okF sz f=true)(hA:AOk m f a)(hl:ts.map f.T.get=us.map some)(hr:renL σ vs=some us):AOk (renM σ m) (frOf sz (ts.zip vs)) a:=by
 obtain⟨h1,h2⟩:=okF_spec ho;have hd:=hA.defers;rw[h2]at hd;refine⟨⟨by have:=hA.tmps.1;rw[h1]at this;exact this,fun t v hv=>?_⟩,by
  cases hdd:a.defers with
  |nil=>rw[frOf];trivial
  |cons x r=>rw[hdd]at hd;exact hd.elim⟩
 rcases putsT_get hv with hz|hz
 ·-- the place of it among them
  obtain⟨i,hi⟩:=List.mem_iff_getElem?.1 hz;rw[List.getElem?_zip_eq_some]at hi;obtain⟨u,k1,k2⟩:=renL_get hr hi.2;have h3:(ts.map f.T.get)[i]?=(us.map some)[i]?:=by rw[hl]
  simp only[List.getElem?_map,hi.1,k2,Option.map_some,Option.some.injEq]at h3;obtain⟨y,g1,g2⟩:=hA.tmps.2 t u h3;exact⟨y,g1,renV_ok v u y k1 g2⟩
 ·simp[Tr.get,Tr.getF]at hz
abbrev Asks(α:Type):=α→(Exit→List V→St→Prop)→Prop
def RoundOkA{α:Type}(k:Nat)(pre:α→Bool)(vs:α→List V)(J:α→St)(μ:α→Nat)(outs:Asks α)(x:α):Exit→List (Option V)→St→Prop
 |.normal,l,s=>∃x',pre x'=true∧Fits k (vs x') (J x') l s∧μ x'<μ x∧∀K,outs x K→outs x' K
 |e,l,s=>∃vs' s',(∀K,outs x K→K e vs' s')∧Fits k vs' s' l s
theorem loopA_law{α:Type}{c:Code}{sz:Nat}{ts:List Nat}{pre:α→Bool}(vs:α→List V)(J:α→St)(μ:α→Nat)(outs:Asks α)
  (round:∀x,pre x=true→CodeSatW P ro k c (frOf sz (ts.zip (vs x))) (J x) (fun e f s=>okF sz f=true∧RoundOkA k pre vs J μ outs x e (ts.map f.T.get) s))
  (x:α)(hp:pre x=true)(hs:okF sz f=true)(hh:Fits k (vs x) (J x) (ts.map f.T.get) st)(hq:outs x (fun e l s=>Q e (frOf sz (ts.zip l)) s)):CodeSatW P ro k (.loop c) f st Q:=by
 intro B W0 M0 m a w F hl he hF hA hr;obtain⟨σ,us,f1,f2,f3,f4,f5⟩:=hh;refine wpIn_loop_ghost (α:={y:α//pre y=true∧outs y (fun e l s=>Q e (frOf sz (ts.zip l)) s)}) (fun y a w=>∃m',Ext M0 m'∧AOk m' (frOf sz (ts.zip (vs y.1))) a∧Rel B W0 m' (J y.1) w) (fun y=>μ y.1) (x:=⟨x,hp,hq⟩)
  ⟨renM σ m,keeps_ext f5 hl he,fits_frame hs hA f1 f2,hr.ren f4 f3⟩ ?_
 rintro⟨y,hyp,hy⟩ a1 w1 ⟨m1,e1,e2,e3⟩;refine wpIn_mono (round y hyp B W0 M0 m1 a1 w1 F hl e1 hF e2 e3) ?_;rintro e a' w' ⟨m',f',st',g1,g2,g3,g4,g5⟩;cases e with
 |normal=>
  obtain⟨y',k0,⟨σ',us',k1,k2,k3,k4,k5⟩,k6,k7⟩:=g5;exact⟨⟨y',k0,k7 _ hy⟩,⟨renM σ' m',keeps_ext k5 hl g1,fits_frame g4 g2 k1 k2,g3.ren k4 k3⟩,k6⟩
 |_=>
  obtain⟨vs',s',k6,σ',us',k1,k2,k3,k4,k5⟩:=g5;exact⟨renM σ' m',_,_,keeps_ext k5 hl g1,fits_frame g4 g2 k1 k2,g3.ren k4 k3,k6 _ hy⟩
theorem satW_iterK{c:Code}{body:Trans}(hb:∀f st Q,body f st Q→CodeSatW P ro k c f st Q){n:Nat}(h:iterK body n f st Q):CodeSatW P ro k (.loop c) f st Q:=by
 intro B W0 M0 m a w F hl he hF hA hr;refine wpIn_loop_ghost (α:={x:Nat×Fr×St//iterK body x.1 x.2.1 x.2.2 Q}) (fun y a w=>∃m',Ext M0 m'∧AOk m' y.1.2.1 a∧Rel B W0 m' y.1.2.2 w) (fun x=>x.1.1) (x:=⟨(n,f,st),h⟩) ⟨m,he,hA,hr⟩ ?_;rintro⟨⟨j,g,s⟩,hk⟩ a1 w1 ⟨m1,e1,e2,e3⟩;cases j with
 |zero=>exact hk.elim
 |succ j=>
  refine wpIn_mono (hb g s _ hk B W0 M0 m1 a1 w1 F hl e1 hF e2 e3) ?_;rintro e a' w' ⟨m',f',s',g1,g2,g3,g4⟩;cases e with
  |normal=>exact⟨⟨(j,f',s'),g4⟩,⟨m',g1,g2,g3⟩,Nat.lt_succ_self j⟩
  |_=>exact⟨m',f',s',g1,g2,g3,g4⟩
def LoopsW(P:Program)(ro:Option Nat)(k:Nat)(lk:Nat→Trans→Trans):Nat→Code→Prop
 |p,.seq a b=>LoopsW P ro k lk (2*p) a∧LoopsW P ro k lk (2*p+1) b
 |p,.cond _ a b=>LoopsW P ro k lk (2*p) a∧LoopsW P ro k lk (2*p+1) b
 |p,.block _ c=>LoopsW P ro k lk (2*p) c
 |p,.scope c=>LoopsW P ro k lk (2*p) c
 |p,.loop c=>LoopsW P ro k lk (2*p) c∧∀body:Trans,(∀f st Q,body f st Q→CodeSatW P ro k c f st Q)→∀f st Q,lk p body f st Q→CodeSatW P ro k (.loop c) f st Q
 |_,_=>True
theorem codeKW_ok(hm:P.follows .mixedOrders=true)(hc:CallOk P (unq cq))(hk:CallKOk P ck){lk:Nat→Trans→Trans}:∀(c:Code) (p:Nat),LoopsW P ro k lk p c→∀(f:Fr) (st:St) (Q:Exit→Fr→St→Prop),codeK P cq ck lk ro p c f st Q→CodeSatW P ro k c f st Q
 |.skip,p,hl,f,st,Q,h=>.of (sat_skip h)
 |.label _,p,hl,f,st,Q,h=>.of (sat_label h)
 |.ret,p,hl,f,st,Q,h=>.of (sat_ret h)
 |.exit id,p,hl,f,st,Q,h=>.of (sat_exit h)
 |.region id ops false,p,hl,f,st,Q,h=>.of (codeK_ok hm hc hk (lk:=lk) (.region id ops false) p trivial f st Q h)
 |.region id ops true,p,hl,f,st,Q,h=>.of (codeK_ok hm hc hk (lk:=lk) (.region id ops true) p trivial f st Q h)
 |.rangeFunc g ps as bd,p,hl,f,st,Q,h=>.of (codeK_ok hm hc hk (lk:=lk) (.rangeFunc g ps as bd) p trivial f st Q h)
 |.seq a b,p,hl,f,st,Q,h=>by
  simp only[codeK]at h;refine satW_seq ((codeKW_ok hm hc hk a (2*p) hl.1 f st _ h).mono ?_);intro e f' s' hq;cases e with
  |normal=>exact codeKW_ok hm hc hk b (2*p+1) hl.2 f' s' Q hq
  |_=>exact hq
 |.cond c x y,p,hl,f,st,Q,h=>by
  simp only[codeK]at h;split at h
  ·rename_i b hb;split at h
   ·rename_i t;rcases bif_elim h with⟨rfl,h⟩|⟨rfl,h⟩
    ·refine satW_cond hb (CodeSatW.less (g:=f.put (some t) (.bool true)) (fun m a ha=>ha.known hb) ?_);exact codeKW_ok hm hc hk x (2*p) hl.1 _ st Q h
    ·refine satW_cond hb (CodeSatW.less (g:=f.put (some t) (.bool false)) (fun m a ha=>ha.known hb) ?_);exact codeKW_ok hm hc hk y (2*p+1) hl.2 _ st Q h
   ·rcases bif_elim h with⟨rfl,h⟩|⟨rfl,h⟩
    ·exact satW_cond hb (codeKW_ok hm hc hk x (2*p) hl.1 _ st Q h)
    ·exact satW_cond hb (codeKW_ok hm hc hk y (2*p+1) hl.2 _ st Q h)
  ·exact h.elim
 |.block id c,p,hl,f,st,Q,h=>by
  simp only[codeK]at h;refine satW_block ((codeKW_ok hm hc hk c (2*p) hl f st _ h).mono ?_);intro e f' s' hq;cases e with
  |exit id'=>
   simp only[Blocked];rcases bif_elim hq with⟨h1,hq⟩|⟨h1,hq⟩
   ·rw[if_pos (Nat.eq_of_beq_eq_true h1)];exact hq
   ·rw[if_neg (fun q=>by rw[q,Nat.beq_refl]at h1;cases h1)];exact hq
  |_=>exact hq
 |.loop c,p,hl,f,st,Q,h=>by
  simp only[codeK]at h;exact hl.2 _ (fun f st Q hq=>codeKW_ok hm hc hk c (2*p) hl.1 f st Q hq) f st Q h
 |.scope c,p,hl,f,st,Q,h=>by
  simp only[codeK]at h;exact satW_scope ((codeKW_ok hm hc hk c (2*p) hl f st _ h).mono (jumpK_ok hm hc))
 |.goto _,p,hl,f,st,Q,h=>.of (sat_goto h)
 |.refuse _,p,hl,f,st,Q,h=>by simp[codeK]at h
def FnLoopsW(P:Program)(k:Nat)(lk:Nat→Trans→Trans)(g:FuncId):Prop:=
 match P.funcs[g]? with
 |some fn=>match fn.body with
  |some c=>LoopsW P none k lk 1 c
  |none=>True
 |none=>True
theorem fnSat_of_W{g:FuncId}{fn:Func}{c:Code}{args:List V}{Q:V→St→Prop}(hf:P.funcs[g]?=some fn)(hb:fn.body=some c)(hl:args.length≤fn.ntmps)
  (h:CodeSatW P none st.length c ⟨fn.ntmps,initT 0 .lf args,[]⟩ st (Leave P fn Q)):FnSat P g args st Q:=by
 intro B W0 m w rargs hargs hr;have hlen:=realL_len hargs;refine callsIn_wide.1 (callsIn_of_wp_marks (n:=0) (F:=Fence.wide) hf hb trivial ?_ rfl);have hA:AOk m ⟨fn.ntmps,initT 0 .lf args,[]⟩ {tmps:=rargs.toArray++Array.replicate (fn.ntmps-rargs.toArray.size) undef,defers:=[]}:=by
  refine⟨⟨by simp;omega,fun t v hv=>?_⟩,trivial⟩;rcases initT_get hv with⟨j,rfl,hj⟩|hv
  ·obtain⟨y,g1,g2⟩:=realL_get hargs hj;refine⟨y,?_,g1⟩;simp only[Nat.zero_add];rw[Array.getElem?_append_left (by simpa using(List.getElem?_eq_some_iff.1 g2).1)];simpa using g2
  ·simp[Tr.get,Tr.getF]at hv
 refine wpIn_mono (h B W0 m m _ w _ (Nat.le_of_eq hr.len) (Ext.refl m) (.inl ⟨rfl,rfl⟩) hA hr) ?_;rintro e a' w' ⟨m',f',st',e1,e2,e3,he,v,s,hlv,hq⟩;have fin:LeavesInM Fence.wide 0 P fn a'.tmps (Ret B W0 m Q) a'.defers .returning w':=by
  unfold leaveV at hlv;split at hlv
  ·rename_i st2 hk;split at hlv
   ·rename_i l hres;cases hlv;exact leaves_ok e1 f'.defs a'.defers st' w' a'.tmps e2.defers e2.tmps e3 _ l hk hres hq
   ·cases hlv
  ·cases hlv
 rcases he with rfl|rfl<;>exact fin
theorem fnKW_ok(hm:P.follows .mixedOrders=true)(hc:CallOk P (unq cq))(hk:CallKOk P ck){lk:Nat→Trans→Trans}{g:FuncId}(hl:FnLoopsW P st.length lk g){args:List V}{Q:V→St→Prop}(h:fnK P cq ck lk g args st Q):FnSat P g args st Q:=by
 unfold fnK at h;unfold FnLoopsW at hl;split at h
 ·rename_i fn hf;rw[hf]at hl;simp only at hl;split at h
  ·rename_i c hb;rw[hb]at hl;simp only at hl;rcases bif_elim h with⟨h1,h⟩|⟨_,h⟩
   ·refine fnSat_of_W hf hb (Nat.le_of_ble_eq_true h1) ((codeKW_ok hm hc hk c 1 hl _ st _ h).mono ?_);intro e f' s' hq;cases e with
    |normal=>obtain⟨⟨v,s⟩,h2,h3⟩:=optK_ok hq;exact⟨.inl rfl,v,s,h2,h3⟩
    |ret=>obtain⟨⟨v,s⟩,h2,h3⟩:=optK_ok hq;exact⟨.inr rfl,v,s,h2,h3⟩
    |_=>exact hq.elim
   ·exact h.elim
  ·exact h.elim
 ·exact h.elim
theorem roundsW(lim:Nat):∀(c:Code) (p:Nat),LoopsW P ro k (rounds lim) p c
 |.seq a b,p=>⟨roundsW lim a _,roundsW lim b _⟩
 |.cond _ a b,p=>⟨roundsW lim a _,roundsW lim b _⟩
 |.block _ c,p=>roundsW lim c _
 |.scope c,p=>roundsW lim c _
 |.loop c,p=>⟨roundsW lim c _,fun body hb f st Q h=>satW_iterK hb h⟩
 |.skip,_|.label _,_|.ret,_|.exit _,_|.region ..,_|.rangeFunc ..,_|.goto _,_|.refuse _,_=>trivial
theorem fnRoundsW(lim k:Nat)(g:FuncId):FnLoopsW P k (rounds lim) g:=by
 unfold FnLoopsW;split
 ·split
  ·exact roundsW lim _ _
  ·trivial
 ·trivial
abbrev TabF:=FuncId→List V→Option (List (Bool×(V×St)))
def TabFOk(P:Program)(F:TabF):Prop:=∀g args l o,F g args=some l→pickO l=some o→FnSat P g args [] (Is o)
def noT:TabF:=fun _ _=>none
theorem noT_ok:TabFOk P noT:=fun _ _ _ _ h=>by cases h
def addT(F:TabF)(g0:FuncId)(f:List V→Option (List (Bool×(V×St)))):TabF:=fun g args=>bif Nat.beq g g0 then f args else F g args
theorem addT_ok{F:TabF}(hF:TabFOk P F){g0:FuncId}{f:List V→Option (List (Bool×(V×St)))}(h:∀args l o,f args=some l→pickO l=some o→FnSat P g0 args [] (Is o)):TabFOk P (addT F g0 f):=by
 intro g args l o hv ho;unfold addT at hv;cases hb:Nat.beq g g0 with
 |true=>rw[hb,cond_true]at hv;rw[Nat.eq_of_beq_eq_true hb];exact h args l o hv ho
 |false=>rw[hb,cond_false]at hv;exact hF g args l o hv ho
def addP(F:TabF)(g0:FuncId)(f:List V→Option V):TabF:=addT F g0 fun args=>match f args with
 |some v=>some [(true,(v,[]))]
 |none=>none
theorem addP_ok{F:TabF}(hF:TabFOk P F){g0:FuncId}{f:List V→Option V}(h:∀args v,f args=some v→FnSat P g0 args [] (Is (v,[]))):TabFOk P (addP F g0 f):=by
 refine addT_ok hF fun args l o hl ho=>?_;split at hl
 ·rename_i v hv;cases hl;simp only[pickO,cond_true,Option.some.injEq]at ho;subst ho;exact h args v hv
 ·cases hl
def tabT(F:TabF):Call:=fun tgt args st=>match tgt,st with
 |.fn g,[]=>match F g args with
  |some l=>pickO l
  |none=>none
 |_,_=>none
theorem tabT_ok{F:TabF}(hF:TabFOk P F):CallOk P (tabT F):=by
 intro tgt args st r h;unfold tabT at h;split at h
 ·rename_i g;split at h
  ·rename_i l hl;exact hF g args l r hl h
  ·cases h
 ·cases h
mutual
def canV(σ:List Nat):V→Option (List Nat×V)
 |.slice b off len ex c z=>match σ.idxOf? b with
  |some i=>some (σ,.slice i off len ex c z)
  |none=>some (σ++[b],.slice σ.length off len ex c z)
 |.ptr b off=>match σ.idxOf? b with
  |some i=>some (σ,.ptr i off)
  |none=>some (σ++[b],.ptr σ.length off)
 |.agg cs=>match canL σ cs with
  |some (σ',l)=>some (σ',.agg l)
  |none=>none
 |.bool b=>some (σ,.bool b)
 |.int k n=>some (σ,.int k n)
 |.str l=>some (σ,.str l)
 |.nilPtr=>some (σ,.nilPtr)
 |.nilSlice=>some (σ,.nilSlice)
 |.lst x n cs=>some (σ,.lst x n cs)
 |.lptr x n cs o=>some (σ,.lptr x n cs o)
 |.nos b n=>match σ.idxOf? b with
  |some i=>some (σ,.nos i n)
  |none=>some (σ++[b],.nos σ.length n)
 |_=>none
def canL(σ:List Nat):List V→Option (List Nat×List V)
 |[]=>some (σ,[])
 |v::r=>match canV σ v with
  |some (σ',v')=>match canL σ' r with
   |some (σ'',r')=>some (σ'',v'::r')
   |none=>none
  |none=>none
end
mutual
theorem renV_more{σ τ:List Nat}:∀(v u:V),renV σ v=some u→renV (σ++τ) v=some u
 |.ptr b off,u,h=>by
  simp only[renV]at h ⊢;cases hb:σ[b]? with
  |none=>simp[hb]at h
  |some c=>rw[List.getElem?_append_left (List.getElem?_eq_some_iff.1 hb).1,hb];simpa[hb]using h
 |.slice b off len ex c z,u,h=>by
  simp only[renV]at h ⊢;cases hb:σ[b]? with
  |none=>simp[hb]at h
  |some d=>rw[List.getElem?_append_left (List.getElem?_eq_some_iff.1 hb).1,hb];simpa[hb]using h
 |.map b,u,h=>by
  simp only[renV]at h ⊢;cases hb:σ[b]? with
  |none=>simp[hb]at h
  |some d=>rw[List.getElem?_append_left (List.getElem?_eq_some_iff.1 hb).1,hb];simpa[hb]using h
 |.nos b n,u,h=>by
  simp only[renV]at h ⊢;cases hb:σ[b]? with
  |none=>simp[hb]at h
  |some d=>rw[List.getElem?_append_left (List.getElem?_eq_some_iff.1 hb).1,hb];simpa[hb]using h
 |.yield b,u,h=>by
  simp only[renV]at h ⊢;cases hb:σ[b]? with
  |none=>simp[hb]at h
  |some d=>rw[List.getElem?_append_left (List.getElem?_eq_some_iff.1 hb).1,hb];simpa[hb]using h
 |.func fn fs cs,u,h=>by
  simp only[renV]at h ⊢;cases h1:renL σ fs with
  |none=>simp[h1]at h
  |some a=>
   cases h2:renL σ cs with
   |none=>simp[h1,h2]at h
   |some b=>rw[renL_more fs a h1,renL_more cs b h2];simpa[h1,h2]using h
 |.iface t v,u,h=>by
  simp only[renV]at h ⊢;cases h1:renV σ v with
  |none=>simp[h1]at h
  |some a=>rw[renV_more v a h1];simpa[h1]using h
 |.agg cs,u,h=>by
  simp only[renV]at h ⊢;cases h1:renL σ cs with
  |none=>simp[h1]at h
  |some a=>rw[renL_more cs a h1];simpa[h1]using h
 |.tuple cs,u,h=>by
  simp only[renV]at h ⊢;cases h1:renL σ cs with
  |none=>simp[h1]at h
  |some a=>rw[renL_more cs a h1];simpa[h1]using h
 |.bool _,u,h|.int _ _,u,h|.str _,u,h|.nilPtr,u,h|.nilSlice,u,h|.nilFunc,u,h|.nilIface,u,h|.nilMap,u,h|.gp _ _,u,h|.lst ..,u,h|.lptr ..,u,h=>by
  simpa only[renV]using h
theorem renL_more{σ τ:List Nat}:∀(l u:List V),renL σ l=some u→renL (σ++τ) l=some u
 |[],u,h=>by simpa only[renL]using h
 |v::r,u,h=>by
  simp only[renL]at h ⊢;cases h1:renV σ v with
  |none=>simp[h1]at h
  |some a=>
   cases h2:renL σ r with
   |none=>simp[h1,h2]at h
   |some b=>rw[renV_more v a h1,renL_more r b h2];simpa[h1,h2]using h
end
theorem idxOf_get{σ:List Nat}{b i:Nat}(h:σ.idxOf? b=some i):σ[i]?=some b:=by
 unfold List.idxOf? at h;rw[List.findIdx?_eq_some_iff_getElem]at h;obtain⟨h1,h2,_⟩:=h;rw[List.getElem?_eq_getElem h1];simpa using h2
mutual
theorem canV_ok:∀(v:V) (σ σ':List Nat) (v':V),canV σ v=some (σ',v')→(∃τ,σ'=σ++τ)∧renV σ' v'=some v
 |.slice b off len ex c z,σ,σ',v',h=>by
  simp only[canV]at h;cases hb:σ.idxOf? b with
  |some i=>simp only[hb,Option.some.injEq,Prod.mk.injEq]at h;obtain⟨rfl,rfl⟩:=h;exact⟨⟨[],by simp⟩,by simp only[renV,idxOf_get hb]⟩
  |none=>simp only[hb,Option.some.injEq,Prod.mk.injEq]at h;obtain⟨rfl,rfl⟩:=h;exact⟨⟨[b],rfl⟩,by simp[renV]⟩
 |.ptr b off,σ,σ',v',h=>by
  simp only[canV]at h;cases hb:σ.idxOf? b with
  |some i=>simp only[hb,Option.some.injEq,Prod.mk.injEq]at h;obtain⟨rfl,rfl⟩:=h;exact⟨⟨[],by simp⟩,by simp only[renV,idxOf_get hb]⟩
  |none=>simp only[hb,Option.some.injEq,Prod.mk.injEq]at h;obtain⟨rfl,rfl⟩:=h;exact⟨⟨[b],rfl⟩,by simp[renV]⟩
 |.nos b n,σ,σ',v',h=>by
  simp only[canV]at h;cases hb:σ.idxOf? b with
  |some i=>simp only[hb,Option.some.injEq,Prod.mk.injEq]at h;obtain⟨rfl,rfl⟩:=h;exact⟨⟨[],by simp⟩,by simp only[renV,idxOf_get hb]⟩
  |none=>simp only[hb,Option.some.injEq,Prod.mk.injEq]at h;obtain⟨rfl,rfl⟩:=h;exact⟨⟨[b],rfl⟩,by simp[renV]⟩
 |.agg cs,σ,σ',v',h=>by
  simp only[canV]at h;cases h1:canL σ cs with
  |none=>simp[h1]at h
  |some p=>
   obtain⟨σ1,l⟩:=p;simp only[h1,Option.some.injEq,Prod.mk.injEq]at h;obtain⟨rfl,rfl⟩:=h;obtain⟨h2,h3⟩:=canL_ok cs σ σ1 l h1;exact⟨h2,by simp only[renV,h3]⟩
 |.bool _,σ,σ',v',h|.int _ _,σ,σ',v',h|.str _,σ,σ',v',h|.nilPtr,σ,σ',v',h|.nilSlice,σ,σ',v',h|.lst ..,σ,σ',v',h|.lptr ..,σ,σ',v',h=>by
  simp only[canV,Option.some.injEq,Prod.mk.injEq]at h;obtain⟨rfl,rfl⟩:=h;exact⟨⟨[],by simp⟩,rfl⟩
 |.nilFunc,σ,σ',v',h|.nilIface,σ,σ',v',h|.nilMap,σ,σ',v',h|.gp _ _,σ,σ',v',h|.yield _,σ,σ',v',h|.map _,σ,σ',v',h|.func ..,σ,σ',v',h|.iface ..,σ,σ',v',h|.tuple _,σ,σ',v',h=>by
  simp[canV]at h
theorem canL_ok:∀(l:List V) (σ σ':List Nat) (l':List V),canL σ l=some (σ',l')→(∃τ,σ'=σ++τ)∧renL σ' l'=some l
 |[],σ,σ',l',h=>by simp only[canL,Option.some.injEq,Prod.mk.injEq]at h;obtain⟨rfl,rfl⟩:=h;exact⟨⟨[],by simp⟩,rfl⟩
 |v::r,σ,σ',l',h=>by
  simp only[canL]at h;cases h1:canV σ v with
  |none=>simp[h1]at h
  |some p=>
   obtain⟨σ1,v1⟩:=p;simp only[h1]at h;cases h2:canL σ1 r with
   |none=>simp[h2]at h
   |some q=>
    obtain⟨σ2,r1⟩:=q;simp only[h2,Option.some.injEq,Prod.mk.injEq]at h;obtain⟨rfl,rfl⟩:=h;obtain⟨⟨τ1,rfl⟩,k1⟩:=canV_ok v σ σ1 v1 h1;obtain⟨⟨τ2,rfl⟩,k2⟩:=canL_ok r _ σ2 r1 h2;exact⟨⟨τ1++τ2,by simp⟩,by simp only[renL,renV_more v1 v k1,k2]⟩
end
def roBlks(st:St):List Nat→Option St
 |[]=>some []
 |c::r=>match st[c]?,roBlks st r with
  |some b,some s=>some (b.toRo::s)
  |_,_=>none
theorem roBlks_get{st:St}:∀{σ:List Nat} {s:St},roBlks st σ=some s→σ.length=s.length∧∀(i:Nat) (b:Blk),s[i]?=some b→∃c b',σ[i]?=some c∧st[c]?=some b'∧b=b'.toRo
 |[],s,h=>by simp only[roBlks,Option.some.injEq]at h;subst h;exact⟨rfl,fun i b hb=>by simp at hb⟩
 |c::r,s,h=>by
  simp only[roBlks]at h;cases h1:st[c]? with
  |none=>simp[h1]at h
  |some b=>
   cases h2:roBlks st r with
   |none=>simp[h1,h2]at h
   |some q=>
    simp only[h1,h2,Option.some.injEq]at h;subst h;obtain⟨k1,k2⟩:=roBlks_get h2;refine⟨by simp[k1],fun i x hx=>?_⟩;cases i with
    |zero=>simp only[List.getElem?_cons_zero,Option.some.injEq]at hx;subst hx;exact⟨c,b,rfl,h1,rfl⟩
    |succ i=>simp only[List.getElem?_cons_succ]at hx ⊢;exact k2 i x hx
structure LookF where
 look:FuncId→List V→St→Option (List (Bool×(V×St)))
 mem:FuncId→List V→St→Option (List (Bool×(V×St)))
 memB:FuncId→Bool
structure LookOk (P:Program) (L:LookF):Prop where
 look:∀g args s l v n,L.look g args s=some l→pickO l=some (v,n)→(∀b∈s,flatL b.cs=true)∧FnSat P g args s (fun u st=>Fits 0 [v] n [some u] st)
 mem:∀g args s l o,L.mem g args s=some l→pickO l=some o→FnSat P g args s (Is o)
def noL:LookF:=⟨fun _ _ _=>none,fun _ _ _=>none,fun _=>false⟩
theorem noL_ok:LookOk P noL:=⟨(by intro g args s l v n h;cases h),(by intro g args s l o h;cases h)⟩
mutual
theorem renV_of_flat{σ:List Nat}:∀(v:V),v.flat=true→renV σ v=some v
 |.bool _,_|.int _ _,_|.str _,_|.nilPtr,_|.nilSlice,_|.nilFunc,_|.nilIface,_|.nilMap,_|.gp _ _,_|.lst ..,_|.lptr ..,_=>rfl
 |.ptr _ _,h=>by cases h
 |.slice ..,h=>by cases h
 |.yield _,h=>by cases h
 |.map _,h=>by cases h
 |.nos ..,h=>by cases h
 |.func fn fs cs,h=>by
  simp only[V.flat,Bool.and_eq_true]at h;simp only[renV,renL_of_flat fs h.1,renL_of_flat cs h.2]
 |.iface t v,h=>by
  simp only[V.flat]at h;simp only[renV,renV_of_flat v h]
 |.agg cs,h=>by
  simp only[V.flat]at h;simp only[renV,renL_of_flat cs h]
 |.tuple cs,h=>by
  simp only[V.flat]at h;simp only[renV,renL_of_flat cs h]
theorem renL_of_flat{σ:List Nat}:∀(l:List V),flatL l=true→renL σ l=some l
 |[],_=>rfl
 |v::r,h=>by
  simp only[flatL,Bool.and_eq_true]at h;simp only[renL,renV_of_flat v h.1,renL_of_flat r h.2]
end
def addM(L:LookF)(g0:FuncId)(f:List V→St→Option (List (Bool×(V×St)))):LookF:={L with look:=fun g args s=>bif Nat.beq g g0 then f args s else L.look g args s}
theorem addM_ok{L:LookF}(hL:LookOk P L){g0:FuncId}{f:List V→St→Option (List (Bool×(V×St)))}(h:∀args s l v n,f args s=some l→pickO l=some (v,n)→(∀b∈s,flatL b.cs=true)∧FnSat P g0 args s (fun u st=>Fits 0 [v] n [some u] st)):LookOk P (addM L g0 f):=by
 refine⟨?_,hL.mem⟩;intro g args s l v n hv ho;unfold addM at hv;simp only at hv;cases hb:Nat.beq g g0 with
 |true=>rw[hb,cond_true]at hv;rw[Nat.eq_of_beq_eq_true hb];exact h args s l v n hv ho
 |false=>rw[hb,cond_false]at hv;exact hL.look g args s l v n hv ho
def addS(L:LookF)(g0:FuncId)(f:List V→St→Option (List (Bool×(V×St)))):LookF:={L with mem:=fun g args s=>bif Nat.beq g g0 then f args s else L.mem g args s,memB:=fun g=>Nat.beq g g0||L.memB g}
theorem addS_ok{L:LookF}(hL:LookOk P L){g0:FuncId}{f:List V→St→Option (List (Bool×(V×St)))}(h:∀args s l o,f args s=some l→pickO l=some o→FnSat P g0 args s (Is o)):LookOk P (addS L g0 f):=by
 refine⟨hL.look,?_⟩;intro g args s l o hv ho;unfold addS at hv;simp only at hv;cases hb:Nat.beq g g0 with
 |true=>rw[hb,cond_true]at hv;rw[Nat.eq_of_beq_eq_true hb];exact h args s l o hv ho
 |false=>rw[hb,cond_false]at hv;exact hL.mem g args s l o hv ho
def lookIn(L:LookF)(g:FuncId)(args:List V)(st:St):Option (List (Bool×(V×St))):=match canL [] args with
 |some (σ,args')=>match roBlks st σ with
  |some s=>L.look g args' s
  |none=>none
 |none=>none
theorem BlkOk.flatRo{B:Nat}{m m':List MB}{w:World}{e:MB}{b:Blk}(hr:b.rw=false)(hf:flatL b.cs=true)(h:BlkOk B m w e b):BlkOk B m' w e b:=by
 cases b with
 |dead=>trivial
 |ro own cs=>
  obtain⟨g1,arr,t,fz,g2,g3⟩:=h;refine⟨g1,arr,t,fz,g2,fun i v hv=>?_⟩;obtain⟨x,k1,k2⟩:=g3 i v hv;refine⟨x,real_flat v x ?_ k1,k2⟩;have:∀(l:List V) (i:Nat) (v:V),flatL l=true→l[i]?=some v→v.flat=true:=by
   intro l
   induction l with
   |nil=>intro i v _ h;simp at h
   |cons a r ih=>
    intro i v hl h;simp only[flatL,Bool.and_eq_true]at hl;cases i with
    |zero=>simp only[List.getElem?_cons_zero,Option.some.injEq]at h;subst h;exact hl.1
    |succ i=>exact ih i v hl.2 (by simpa using h)
  exact this cs i v hf hv
 |row=>cases hr
 |defd=>cases hr
 |mpu=>cases hr
 |mp cs=>cases hr
 |sit s p=>cases hr
 |loop=>cases hr
theorem lookIn_ok{L:LookF}(hL:LookOk P L){g:FuncId}{args:List V}{l:List (Bool×(V×St))}{v:V}{n:St}(h:lookIn L g args st=some l)(ho:pickO l=some (v,n)):FnSat P g args st (Is (bif v.flat then(v,st)else(v.shift st.length,st++n.map (Blk.shift st.length)))):=by
 unfold lookIn at h;split at h
 ·rename_i σ args' hc;split at h
  ·rename_i s hs;obtain⟨h2,h3⟩:=hL.look g args' s l v n h ho;obtain⟨_,h4⟩:=canL_ok args [] σ args' hc;obtain⟨h5,h6⟩:=roBlks_get hs;intro B W0 m w rargs hargs hr;have hrel:Rel w.heap.size w (renM σ m) s w:=by
    refine Rel.ofRo hr.gok (by simp[renM,h5]) fun i b e hb he=>?_;obtain⟨c,b',k1,k2,rfl⟩:=h6 i b hb;obtain⟨e',k3,k4⟩:=hr.at k2;unfold renM at he;rw[List.getElem?_map,k1]at he;simp only[Option.map_some,k3,Option.getD_some,Option.some.injEq]at he;subst he;exact⟨(k4.toRo w.heap.size).flatRo (toRo_rw b') (h2 _ (List.mem_of_getElem? hb)),toRo_rw b'⟩
   refine(h3 w.heap.size w (renM σ m) w rargs (renL_ok args' args rargs h4 hargs) hrel).mono ?_;rintro e w' ⟨u,x,m',s',rfl,g1,g2,g3,τ,us,k1,k2,k3,k4,k5⟩;simp only[renL]at k2;cases hv:renV τ v with
   |none=>simp[hv]at k2
   |some u'=>
    simp only[hv,Option.some.injEq]at k2;subst k2;simp only[List.map_cons,List.map_nil,List.cons.injEq,Option.some.injEq,and_true]at k1;subst k1;have e2:=renV_ok v u x hv g2;have e3:=g3.ren k4 k3;cases hfl:v.flat with
    |true=>exact⟨v,x,m,st,rfl,Ext.refl m,real_flat v x hfl e2,hr.later e3.below,rfl⟩
    |false=>
     refine⟨v.shift st.length,x,m++renM τ m',st++n.map (Blk.shift st.length),rfl,fun b e hb=>?_,by rw[←hr.len];exact real_shift v x e2,hr.join e3,rfl⟩;rw[List.getElem?_append_left (List.getElem?_eq_some_iff.1 hb).1];exact hb
  ·cases h
 ·cases h
abbrev Lks:=FuncId→Nat→Nat→Trans→Trans
def LksOk(P:Program)(lks:Lks):Prop:=∀g k,FnLoopsW P k (lks g k) g
def noLks(lim:Nat):Lks:=fun _ _=>rounds lim
theorem noLks_ok(lim:Nat):LksOk P (noLks lim):=fun g k=>fnRoundsW lim k g
structure Tab where
 F:TabF
 L:LookF
 lks:Lks
structure TabOk3 (P:Program) (T:Tab):Prop where
 F:TabFOk P T.F
 L:LookOk P T.L
 lks:LksOk P T.lks
def cqT(P:Program)(T:Tab)(lim n:Nat):CallQ:=fun t a s=>match t with
 |.fn g=>match(match s with|[]=>T.F g a|_=>none)with
  |some l=>some (true,l)
  |none=>match lookIn T.L g a s with
   |some l=>some (true,l.map fun o=>(o.1,bif o.2.1.flat then(o.2.1,s)else(o.2.1.shift s.length,s++o.2.2.map (Blk.shift s.length))))
   |none=>bif T.L.memB g then(match T.L.mem g a s with
    |some l=>some (true,l)
    |none=>none)else liftQ (E P (tabT T.F) lim n) (.fn g) a s
 |.yld l=>liftQ (E P (tabT T.F) lim n) (.yld l) a s
theorem pickO_map{f:V×St→V×St}:∀{l:List (Bool×(V×St))} {o:V×St},pickO (l.map fun x=>(x.1,f x.2))=some o→∃o',pickO l=some o'∧f o'=o
 |[],o,h=>by cases h
 |(b,x)::r,o,h=>by
  cases b with
  |true=>simp only[List.map_cons,pickO,cond_true,Option.some.injEq]at h;exact⟨x,rfl,h⟩
  |false=>simp only[List.map_cons,pickO,cond_false]at h;exact pickO_map (l:=r) h
theorem cqT_ok(hm:P.follows .mixedOrders=true){T:Tab}(hT:TabOk3 P T)(lim n:Nat):CallOk P (unq (cqT P T lim n)):=by
 have hE:CallOk P (unq (liftQ (E P (tabT T.F) lim n))):=by rw[unq_lift];exact E_ok hm (tabT_ok hT.F) lim n
 intro t a s r h;unfold unq at h;split at h
 ·rename_i b l hq;unfold cqT at hq;split at hq
  ·rename_i g;split at hq
   ·rename_i l' hl;cases hq;cases s with
    |nil=>exact hT.F g a l r hl h
    |cons _ _=>cases hl
   ·split at hq
    ·rename_i l' hl;cases hq;obtain⟨⟨v,n'⟩,ho,rfl⟩:=pickO_map (f:=fun o=>bif o.1.flat then(o.1,s)else(o.1.shift s.length,s++o.2.map (Blk.shift s.length))) h;exact lookIn_ok hT.L hl ho
    ·cases hb:T.L.memB g with
     |true=>
      rw[hb,cond_true]at hq;split at hq
      ·rename_i l' hl;cases hq;exact hT.L.mem g a s l r hl h
      ·cases hq
     |false=>
      rw[hb,cond_false]at hq;refine hE (.fn g) a s r ?_;unfold unq;rw[hq];exact h
  ·rename_i l0;refine hE (.yld l0) a s r ?_;unfold unq;rw[hq];exact h
 ·cases h
section
variable {T:Tab}
def KG(P:Program)(T:Tab)(lim:Nat):Nat→CallK
 |0=>fun _ _ _ _=>False
 |n+1=>fun tgt args st Q=>match tgt with
  |.fn g=>match T.F g args,st with
   |some l,[]=>pickQ Q l
   |_,st=>match lookIn T.L g args st with
    |some l=>pickQ (fun v n=>bif v.flat then Q v st else Q (v.shift st.length) (st++n.map (Blk.shift st.length))) l
    |none=>match T.L.mem g args st with
     |some l=>pickQ Q l
     |none=>fnK P (cqT P T lim n) (KG P T lim n) (T.lks g st.length) g args st Q
  |.yld l=>yldK P (cqT P T lim n) (KG P T lim n) (rounds lim) l args st Q
theorem KG_ok(hm:P.follows .mixedOrders=true)(hT:TabOk3 P T):∀n,CallKOk P (KG P T lim n)
 |0=>fun _ _ _ _ h=>h.elim
 |n+1=>fun tgt args st Q h=>by
  have hE:=cqT_ok hm hT lim n;cases tgt with
  |fn g=>
   simp only[KG]at h;split at h
   ·rename_i l hl;obtain⟨o,h1,h2⟩:=pickQ_ok h;exact(hT.F g args l o hl h1).mono fun u s hq=>by cases hq;exact h2
   ·split at h
    ·rename_i l hv;obtain⟨⟨v,n⟩,ho,hq⟩:=pickQ_ok h;refine(lookIn_ok hT.L hv ho).mono fun u s hu=>?_;cases hfl:v.flat with
     |true=>rw[hfl,cond_true]at hu hq;cases hu;exact hq
     |false=>rw[hfl,cond_false]at hu hq;cases hu;exact hq
    ·split at h
     ·rename_i l hl;obtain⟨o,h1,h2⟩:=pickQ_ok h;exact(hT.L.mem g args _ l o hl h1).mono fun u s hq=>by cases hq;exact h2
     ·exact fnKW_ok hm hE (KG_ok hm hT n) (hT.lks g _) h
  |yld l=>
   simp only[KG]at h;exact yldK_ok hm hE (KG_ok hm hT n) (fun c=>rounds_ok lim c 1) h
def runM(P:Program)(T:Tab)(lim n:Nat)(g:FuncId)(args:List V)(R:V→St→Prop):Prop:=
 fnK P (cqT P T lim n) (KG P T lim n) (T.lks g 0) g args [] R
def runW(P:Program)(T:Tab)(lim n:Nat)(g:FuncId)(args:List V)(R:V→Prop):Prop:=
 runM P T lim n g args (fun v _=>R v)
theorem runM_ok(hm:P.follows .mixedOrders=true)(hT:TabOk3 P T){g:FuncId}{args:List V}{R:V→St→Prop}(h:runM P T lim n g args R):FnSat P g args [] R:=
 fnKW_ok (st:=[]) hm (cqT_ok hm hT lim n) (KG_ok hm hT n) (hT.lks g 0) h
theorem FnSat.fits{g:FuncId}{args:List V}{v:V}{s:St}(h:FnSat P g args [] (fun u st=>Fits 0 [v] s [some u] st)):FnSat P g args [] (Is (v,s)):=by
 intro B W0 m w rargs hargs hr;refine(h B W0 m w rargs hargs hr).mono ?_;rintro e w' ⟨u,x,m',st',rfl,e1,e2,e3,σ,us,k1,k2,k3,k4,k5⟩;simp only[renL]at k2;cases h1:renV σ v with
 |none=>simp[h1]at k2
 |some u'=>
  simp only[h1,Option.some.injEq]at k2;subst k2;simp only[List.map_cons,List.map_nil,List.cons.injEq,Option.some.injEq,and_true]at k1;subst k1;have hm0:m=[]:=List.eq_nil_of_length_eq_zero hr.len;subst hm0;exact⟨v,x,renM σ m',s,rfl,fun b e hb=>by simp at hb,renV_ok v u x h1 e2,e3.ren k4 k3,rfl⟩
theorem runW_ok(hm:P.follows .mixedOrders=true)(hT:TabOk3 P T){g:FuncId}{args:List V}{R:V→Prop}(h:runW P T lim n g args R):FnSat P g args [] (fun v _=>R v):=
 fnKW_ok (st:=[]) hm (cqT_ok hm hT lim n) (KG_ok hm hT n) (hT.lks g 0) h
theorem pureW_of(hm:P.follows .mixedOrders=true)(hT:TabOk3 P T){g:FuncId}{args:List V}{v:V}(ha:flatL args=true)(hv:v.flat=true)(h:runW P T lim n g args (fun u=>u=v)):FnSat P g args [] (Is (v,[])):=by
 refine FnSat.flatK ha ((runW_ok hm hT h).mono ?_);rintro u s rfl;rw[hv];rfl
theorem withLoopW_ok{p0:Nat}{T:Trans}{lk:Nat→Trans→Trans}:∀(c:Code) (p:Nat),LoopsW P ro k lk p c→(∀c'∈loopsAt p0 p c,∀f st Q,T f st Q→CodeSatW P ro k (.loop c') f st Q)→LoopsW P ro k (withLoop p0 T lk) p c
 |.seq a b,p,h,hT=>⟨withLoopW_ok a _ h.1 fun c' hc=>hT c' (by simp only[loopsAt,List.mem_append];exact .inl hc),withLoopW_ok b _ h.2 fun c' hc=>hT c' (by simp only[loopsAt,List.mem_append];exact .inr hc)⟩
 |.cond _ a b,p,h,hT=>⟨withLoopW_ok a _ h.1 fun c' hc=>hT c' (by simp only[loopsAt,List.mem_append];exact .inl hc),withLoopW_ok b _ h.2 fun c' hc=>hT c' (by simp only[loopsAt,List.mem_append];exact .inr hc)⟩
 |.block _ c,p,h,hT=>withLoopW_ok c _ h fun c' hc=>hT c' (by simp only[loopsAt];exact hc)
 |.scope c,p,h,hT=>withLoopW_ok c _ h fun c' hc=>hT c' (by simp only[loopsAt];exact hc)
 |.loop c,p,h,hT=>by
  refine⟨withLoopW_ok c _ h.1 fun c' hc=>hT c' (by simp only[loopsAt,List.mem_append];exact .inr hc),fun body hb f st Q hq=>?_⟩;unfold withLoop at hq;cases hp:Nat.beq p p0 with
  |true=>
   rw[hp,cond_true]at hq;exact hT c (by simp[loopsAt,Nat.eq_of_beq_eq_true hp]) f st Q hq
  |false=>
   rw[hp,cond_false]at hq;exact h.2 body hb f st Q hq
 |.skip,_,_,_|.label _,_,_,_|.ret,_,_,_|.exit _,_,_,_|.region ..,_,_,_|.rangeFunc ..,_,_,_|.goto _,_,_,_|.refuse _,_,_,_=>trivial
theorem fnLoopW{g:FuncId}{p0:Nat}{T:Trans}{lk:Nat→Trans→Trans}(hl:FnLoopsW P k lk g)(hp:loopsAt p0 1 (bodyOf P g)=[loopOf P g p0])(hT:∀f st Q,T f st Q→CodeSatW P none k (.loop (loopOf P g p0)) f st Q):FnLoopsW P k (withLoop p0 T lk) g:=by
 unfold FnLoopsW at hl ⊢;unfold bodyOf at hp;split at hl
 ·rename_i fn hf;simp only[hf]at hp ⊢;split at hl
  ·rename_i c hb;simp only[hb,Option.getD_some]at hp ⊢;refine withLoopW_ok c 1 hl fun c' hc=>?_;rw[hp]at hc;rw[List.mem_singleton.1 hc];exact hT
  ·trivial
 ·trivial
def addLk(lks:Lks)(g0 k0:Nat)(lk:Nat→Trans→Trans):Lks:=fun g k=>bif Nat.beq g g0&&Nat.beq k k0 then lk else lks g k
theorem addLk_ok{lks:Lks}(hl:LksOk P lks){g0 k0:Nat}{lk:Nat→Trans→Trans}(h:FnLoopsW P k0 lk g0):LksOk P (addLk lks g0 k0 lk):=by
 intro g k;unfold addLk;cases hb:(Nat.beq g g0&&Nat.beq k k0)with
 |true=>
  rw[Bool.and_eq_true]at hb;rw[cond_true,Nat.eq_of_beq_eq_true hb.1,Nat.eq_of_beq_eq_true hb.2];exact h
 |false=>rw[cond_false];exact hl g k
def roundW(P:Program)(T:Tab)(lim n:Nat)(lk:Nat→Trans→Trans)(g:FuncId)(p0:Nat)(ts:List Nat)(vs:List V)(st:St)(R:Exit→List (Option V)→St→Prop):Prop:=
 codeK P (cqT P T lim n) (KG P T lim n) lk none (2*p0) (loopOf P g p0) (frOf (szOf P g) (ts.zip vs)) st (fun e f s=>bif okF (szOf P g) f then R e (ts.map f.T.get) s else False)
def loopA{α:Type}(k sz:Nat)(ts:List Nat)(dec:List (Option V)→St→Option α)(pre:α→Bool)(vs:α→List V)(J:α→St)(outs:Asks α):Trans:=fun f st Q=>
 bif okF sz f then optK (dec (ts.map f.T.get) st) (fun x=>Fits k (vs x) (J x) (ts.map f.T.get) st∧must (pre x) (outs x (fun e l s=>Q e (frOf sz (ts.zip l)) s)))else False
theorem loopA_ok{α:Type}(hm:P.follows .mixedOrders=true)(hT:TabOk3 P T){lk:Nat→Trans→Trans}{g:FuncId}{p0:Nat}(hlk:LoopsW P none k lk (2*p0) (loopOf P g p0)){ts:List Nat}{dec:List (Option V)→St→Option α}{pre:α→Bool}
  {vs:α→List V}{J:α→St}(μ:α→Nat){outs:Asks α}
  (round:∀x,pre x=true→roundW P T lim n lk g p0 ts (vs x) (J x) (RoundOkA k pre vs J μ outs x))(h:loopA k (szOf P g) ts dec pre vs J outs f st Q):CodeSatW P none k (.loop (loopOf P g p0)) f st Q:=by
 unfold loopA at h;rcases bif_elim h with⟨h1,h⟩|⟨_,h⟩
 ·obtain⟨x,h2,hfit,h3⟩:=optK_ok h;obtain⟨hp,h4⟩:=must_spec h3;refine loopA_law vs J μ outs (fun x hx=>(codeKW_ok hm (cqT_ok hm hT lim n) (KG_ok hm hT n) _ _ hlk _ _ _ (round x hx)).mono ?_) x hp h1 hfit h4;intro e f s hq;rcases bif_elim hq with⟨ho,hq⟩|⟨_,hq⟩
  ·exact⟨ho,hq⟩
  ·exact hq.elim
 ·exact h.elim
end
end
def tabL(T:Tab):Call:=fun t args st=>match tabT T.F t args st with
 |some r=>some r
 |none=>match t with
  |.fn g=>match lookIn T.L g args st with
   |some l=>match pickO l with
    |some (v,n)=>some (bif v.flat then(v,st)else(v.shift st.length,st++n.map (Blk.shift st.length)))
    |none=>none
   |none=>none
  |_=>none
theorem tabL_ok{P:Program}{T:Tab}(hT:TabOk3 P T):CallOk P (tabL T):=by
 intro t args st r h;unfold tabL at h;split at h
 ·rename_i r' h1;cases h;exact tabT_ok hT.F t args st _ h1
 ·split at h
  ·rename_i g;split at h
   ·rename_i l hl;split at h
    ·rename_i v n ho;cases h;exact lookIn_ok hT.L hl ho
    ·cases h
   ·cases h
  ·cases h
end Go.Vm
namespace Go.Vm
variable [G:Glob] [Φ:Frz]
set_option linter.unusedSectionVars false
set_option linter.unusedVariables false
open Go.RowKit
mutual
def eqVV:V→V→Bool
 |.bool a,.bool b=>a==b
 |.int k n,.int k' m=>decide (k=k')&&eqI n m
 |.str l,.str m=>eqS l m
 |.nilPtr,.nilPtr=>true
 |.ptr b o,.ptr c p=>Nat.beq b c&&Nat.beq o p
 |.nilSlice,.nilSlice=>true
 |.slice a b c d e f,.slice a' b' c' d' e' f'=>Nat.beq a a'&&(Nat.beq b b'&&(Nat.beq c c'&&(d==d'&&(Nat.beq e e'&&Nat.beq f f'))))
 |.nilFunc,.nilFunc=>true
 |.nilIface,.nilIface=>true
 |.iface t v,.iface u w=>Nat.beq t u&&eqVV v w
 |.nilMap,.nilMap=>true
 |.map b,.map c=>Nat.beq b c
 |.agg a,.agg b=>eqLL a b
 |.tuple a,.tuple b=>eqLL a b
 |.gp a b,.gp c d=>Nat.beq a c&&Nat.beq b d
 |.func (.func f) a b,.func (.func g) c d=>Nat.beq f g&&(eqLL a c&&eqLL b d)
 |_,_=>false
def eqLL:List V→List V→Bool
 |[],[]=>true
 |a::r,b::s=>eqVV a b&&eqLL r s
 |_,_=>false
end
mutual
theorem eqVV_ok(a b:V)(h:eqVV a b=true):a=b:=by
 unfold eqVV at h;split at h
 ·rw[eq_of_beq h]
 ·rw[Bool.and_eq_true]at h;rw[of_decide_eq_true h.1,eqI_ok h.2]
 ·rw[eqS_ok h]
 ·rfl
 ·rw[Bool.and_eq_true]at h;rw[Nat.eq_of_beq_eq_true h.1,Nat.eq_of_beq_eq_true h.2]
 ·rfl
 ·simp only[Bool.and_eq_true]at h;rw[Nat.eq_of_beq_eq_true h.1,Nat.eq_of_beq_eq_true h.2.1,Nat.eq_of_beq_eq_true h.2.2.1,eq_of_beq h.2.2.2.1,Nat.eq_of_beq_eq_true h.2.2.2.2.1,Nat.eq_of_beq_eq_true h.2.2.2.2.2]
 ·rfl
 ·rfl
 ·rename_i t v u w;rw[Bool.and_eq_true]at h;rw[Nat.eq_of_beq_eq_true h.1,eqVV_ok _ _ h.2]
 ·rfl
 ·rw[Nat.eq_of_beq_eq_true h]
 ·rename_i a b;rw[eqLL_ok _ _ h]
 ·rename_i a b;rw[eqLL_ok _ _ h]
 ·rw[Bool.and_eq_true]at h;rw[Nat.eq_of_beq_eq_true h.1,Nat.eq_of_beq_eq_true h.2]
 ·rename_i f a b g c d;simp only[Bool.and_eq_true]at h;rw[Nat.eq_of_beq_eq_true h.1,eqLL_ok _ _ h.2.1,eqLL_ok _ _ h.2.2]
 ·cases h
 termination_by SizeOf.sizeOf a
theorem eqLL_ok(a b:List V)(h:eqLL a b=true):a=b:=by
 unfold eqLL at h;split at h
 ·rfl
 ·rename_i a r b s;rw[Bool.and_eq_true]at h;rw[eqVV_ok _ _ h.1,eqLL_ok _ _ h.2]
 ·cases h
 termination_by SizeOf.sizeOf a
end
def eqBlk:Blk→Blk→Bool
 |.dead,.dead=>true
 |.defd,.defd=>true
 |.mp cs,.mp ds=>eqLL cs ds
 |.sit s p,.sit t q=>eqS s t&&Nat.beq p q
 |.ro o cs,.ro p ds=>o==p&&eqLL cs ds
 |.row cs t sz,.row ds u sw=>Nat.beq t u&&(Nat.beq sz sw&&eqLL cs ds)
 |_,_=>false
theorem eqBlk_ok{a b:Blk}(h:eqBlk a b=true):a=b:=by
 unfold eqBlk at h;split at h
 ·rfl
 ·rfl
 ·rw[eqLL_ok _ _ h]
 ·rw[Bool.and_eq_true]at h;rw[eqS_ok h.1,Nat.eq_of_beq_eq_true h.2]
 ·rw[Bool.and_eq_true]at h;rw[eq_of_beq h.1,eqLL_ok _ _ h.2]
 ·simp only[Bool.and_eq_true]at h;rw[Nat.eq_of_beq_eq_true h.1,Nat.eq_of_beq_eq_true h.2.1,eqLL_ok _ _ h.2.2]
 ·cases h
def eqSt:St→St→Bool
 |[],[]=>true
 |a::r,b::s=>eqBlk a b&&eqSt r s
 |_,_=>false
theorem eqSt_ok:∀{a b:St},eqSt a b=true→a=b
 |[],[],_=>rfl
 |[],_::_,h=>by cases h
 |_::_,[],h=>by cases h
 |a::r,b::s,h=>by
  simp only[eqSt,Bool.and_eq_true]at h;rw[eqBlk_ok h.1,eqSt_ok h.2]
structure Ent where
 g:Nat
 args:List V
 st:St
 v:V
 s:St
def EntOk(P:Program)(e:Ent):Prop:=FnSat P e.g e.args e.st (Is (e.v,e.s))
theorem all_cons{P:Program}{e:Ent}{es:List Ent}(h:EntOk P e)(hs:∀e∈es,EntOk P e):∀e'∈e::es,EntOk P e':=fun e' he=>by
 rcases List.mem_cons.1 he with rfl|he
 ·exact h
 ·exact hs e' he
structure EntL where
 g:Nat
 args:List V
 st:St
 v:V
end Go.Vm
namespace Go.Vm
variable [G:Glob] [Φ:Frz]
set_option linter.unusedSectionVars false
set_option linter.unusedVariables false
open Go.RowKit
mutual
def cnV(σ:List Nat):V→Option (List Nat×V)
 |.slice b off len ex c z=>match σ.idxOf? b with
  |some i=>some (σ,.slice i off len ex c z)
  |none=>some (σ++[b],.slice σ.length off len ex c z)
 |.ptr b off=>match σ.idxOf? b with
  |some i=>some (σ,.ptr i off)
  |none=>some (σ++[b],.ptr σ.length off)
 |.agg cs=>match cnL σ cs with
  |some (σ',l)=>some (σ',.agg l)
  |none=>none
 |.tuple cs=>match cnL σ cs with
  |some (σ',l)=>some (σ',.tuple l)
  |none=>none
 |.iface t v=>match cnV σ v with
  |some (σ',u)=>some (σ',.iface t u)
  |none=>none
 |.func fn fs cs=>match cnL σ fs with
  |some (σ1,l)=>match cnL σ1 cs with
   |some (σ2,k)=>some (σ2,.func fn l k)
   |none=>none
  |none=>none
 |.yield _=>none
 |.map b=>match σ.idxOf? b with
  |some i=>some (σ,.map i)
  |none=>some (σ++[b],.map σ.length)
 |.nos b n=>match σ.idxOf? b with
  |some i=>some (σ,.nos i n)
  |none=>some (σ++[b],.nos σ.length n)
 |v=>some (σ,v)
def cnL(σ:List Nat):List V→Option (List Nat×List V)
 |[]=>some (σ,[])
 |v::r=>match cnV σ v with
  |some (σ',v')=>match cnL σ' r with
   |some (σ'',r')=>some (σ'',v'::r')
   |none=>none
  |none=>none
end
theorem idxOf_none{σ:List Nat}{b:Nat}(h:σ.idxOf? b=none):b∉σ:=by
 unfold List.idxOf? at h;rw[List.findIdx?_eq_none_iff]at h;intro hb;have:=h b hb;simp at this
theorem nodup_snoc{σ:List Nat}{b:Nat}(hn:σ.Nodup)(hb:b∉σ):(σ++[b]).Nodup:=by
 rw[List.nodup_append];exact⟨hn,by simp,fun a ha c hc=>by simp at hc;subst hc;rintro rfl;exact hb ha⟩
def CnOk(σ σ':List Nat):Prop:=(∃τ,σ'=σ++τ)∧(σ.Nodup→σ'.Nodup)
theorem CnOk.refl(σ:List Nat):CnOk σ σ:=⟨⟨[],by simp⟩,fun h=>h⟩
theorem CnOk.trans{a b c:List Nat}(h:CnOk a b)(k:CnOk b c):CnOk a c:=by
 obtain⟨⟨t,rfl⟩,h2⟩:=h;obtain⟨⟨u,rfl⟩,k2⟩:=k;exact⟨⟨t++u,by simp⟩,fun h=>k2 (h2 h)⟩
mutual
theorem cnV_ok:∀(v:V) (σ σ':List Nat) (v':V),cnV σ v=some (σ',v')→CnOk σ σ'∧renV σ' v'=some v
 |.slice b off len ex c z,σ,σ',v',h=>by
  simp only[cnV]at h;cases hb:σ.idxOf? b with
  |some i=>simp only[hb,Option.some.injEq,Prod.mk.injEq]at h;obtain⟨rfl,rfl⟩:=h;exact⟨CnOk.refl _,by simp only[renV,idxOf_get hb]⟩
  |none=>simp only[hb,Option.some.injEq,Prod.mk.injEq]at h;obtain⟨rfl,rfl⟩:=h;exact⟨⟨⟨[b],rfl⟩,fun hn=>nodup_snoc hn (idxOf_none hb)⟩,by simp[renV]⟩
 |.ptr b off,σ,σ',v',h=>by
  simp only[cnV]at h;cases hb:σ.idxOf? b with
  |some i=>simp only[hb,Option.some.injEq,Prod.mk.injEq]at h;obtain⟨rfl,rfl⟩:=h;exact⟨CnOk.refl _,by simp only[renV,idxOf_get hb]⟩
  |none=>simp only[hb,Option.some.injEq,Prod.mk.injEq]at h;obtain⟨rfl,rfl⟩:=h;exact⟨⟨⟨[b],rfl⟩,fun hn=>nodup_snoc hn (idxOf_none hb)⟩,by simp[renV]⟩
 |.agg cs,σ,σ',v',h=>by
  simp only[cnV]at h;cases h1:cnL σ cs with
  |none=>simp[h1]at h
  |some p=>
   obtain⟨σ1,l⟩:=p;simp only[h1,Option.some.injEq,Prod.mk.injEq]at h;obtain⟨rfl,rfl⟩:=h;obtain⟨h2,h3⟩:=cnL_ok cs σ σ1 l h1;exact⟨h2,by simp only[renV,h3]⟩
 |.tuple cs,σ,σ',v',h=>by
  simp only[cnV]at h;cases h1:cnL σ cs with
  |none=>simp[h1]at h
  |some p=>
   obtain⟨σ1,l⟩:=p;simp only[h1,Option.some.injEq,Prod.mk.injEq]at h;obtain⟨rfl,rfl⟩:=h;obtain⟨h2,h3⟩:=cnL_ok cs σ σ1 l h1;exact⟨h2,by simp only[renV,h3]⟩
 |.iface t v,σ,σ',v',h=>by
  simp only[cnV]at h;cases h1:cnV σ v with
  |none=>simp[h1]at h
  |some p=>
   obtain⟨σ1,l⟩:=p;simp only[h1,Option.some.injEq,Prod.mk.injEq]at h;obtain⟨rfl,rfl⟩:=h;obtain⟨h2,h3⟩:=cnV_ok v σ σ1 l h1;exact⟨h2,by simp only[renV,h3]⟩
 |.func fn fs cs,σ,σ',v',h=>by
  simp only[cnV]at h;cases h1:cnL σ fs with
  |none=>simp[h1]at h
  |some p=>
   obtain⟨σ1,l⟩:=p;simp only[h1]at h;cases h2:cnL σ1 cs with
   |none=>simp[h2]at h
   |some q=>
    obtain⟨σ2,k⟩:=q;simp only[h2,Option.some.injEq,Prod.mk.injEq]at h;obtain⟨rfl,rfl⟩:=h;obtain⟨g1,g2⟩:=cnL_ok fs σ σ1 l h1;obtain⟨g3,g4⟩:=cnL_ok cs σ1 σ2 k h2;refine⟨g1.trans g3,?_⟩;obtain⟨⟨t,rfl⟩,_⟩:=g3;simp only[renV,renL_more l fs g2,g4]
 |.bool _,σ,σ',v',h|.int _ _,σ,σ',v',h|.str _,σ,σ',v',h|.nilPtr,σ,σ',v',h|.nilSlice,σ,σ',v',h|.nilFunc,σ,σ',v',h|.nilIface,σ,σ',v',h|.nilMap,σ,σ',v',h|.gp _ _,σ,σ',v',h|.lst ..,σ,σ',v',h|.lptr ..,σ,σ',v',h=>by
  simp only[cnV,Option.some.injEq,Prod.mk.injEq]at h;obtain⟨rfl,rfl⟩:=h;exact⟨CnOk.refl _,rfl⟩
 |.map b,σ,σ',v',h=>by
  simp only[cnV]at h;cases hb:σ.idxOf? b with
  |some i=>simp only[hb,Option.some.injEq,Prod.mk.injEq]at h;obtain⟨rfl,rfl⟩:=h;exact⟨CnOk.refl _,by simp only[renV,idxOf_get hb]⟩
  |none=>simp only[hb,Option.some.injEq,Prod.mk.injEq]at h;obtain⟨rfl,rfl⟩:=h;exact⟨⟨⟨[b],rfl⟩,fun hn=>nodup_snoc hn (idxOf_none hb)⟩,by simp[renV]⟩
 |.nos b n,σ,σ',v',h=>by
  simp only[cnV]at h;cases hb:σ.idxOf? b with
  |some i=>simp only[hb,Option.some.injEq,Prod.mk.injEq]at h;obtain⟨rfl,rfl⟩:=h;exact⟨CnOk.refl _,by simp only[renV,idxOf_get hb]⟩
  |none=>simp only[hb,Option.some.injEq,Prod.mk.injEq]at h;obtain⟨rfl,rfl⟩:=h;exact⟨⟨⟨[b],rfl⟩,fun hn=>nodup_snoc hn (idxOf_none hb)⟩,by simp[renV]⟩
 |.yield _,σ,σ',v',h=>by
  simp[cnV]at h
theorem cnL_ok:∀(l:List V) (σ σ':List Nat) (l':List V),cnL σ l=some (σ',l')→CnOk σ σ'∧renL σ' l'=some l
 |[],σ,σ',l',h=>by simp only[cnL,Option.some.injEq,Prod.mk.injEq]at h;obtain⟨rfl,rfl⟩:=h;exact⟨CnOk.refl _,rfl⟩
 |v::r,σ,σ',l',h=>by
  simp only[cnL]at h;cases h1:cnV σ v with
  |none=>simp[h1]at h
  |some p=>
   obtain⟨σ1,v1⟩:=p;simp only[h1]at h;cases h2:cnL σ1 r with
   |none=>simp[h2]at h
   |some q=>
    obtain⟨σ2,r1⟩:=q;simp only[h2,Option.some.injEq,Prod.mk.injEq]at h;obtain⟨rfl,rfl⟩:=h;obtain⟨g1,k1⟩:=cnV_ok v σ σ1 v1 h1;obtain⟨g2,k2⟩:=cnL_ok r _ σ2 r1 h2;refine⟨g1.trans g2,?_⟩;obtain⟨⟨t,rfl⟩,_⟩:=g2;simp only[renL,renV_more v1 v k1,k2]
end
def cnB(σ:List Nat):Blk→Option (List Nat×Blk)
 |.ro own cs=>match cnL σ cs with
  |some (σ',l)=>some (σ',.ro own l)
  |none=>none
 |.row cs t sz=>match cnL σ cs with
  |some (σ',l)=>some (σ',.row l t sz)
  |none=>none
 |.mp cs=>match cnL σ cs with
  |some (σ',l)=>some (σ',.mp l)
  |none=>none
 |.dead=>some (σ,.dead)
 |_=>none
theorem cnB_ok:∀(b:Blk) (σ σ':List Nat) (b':Blk),cnB σ b=some (σ',b')→CnOk σ σ'∧renB σ' b'=some b
 |.ro own cs,σ,σ',b',h=>by
  simp only[cnB]at h;cases h1:cnL σ cs with
  |none=>simp[h1]at h
  |some p=>
   obtain⟨σ1,l⟩:=p;simp only[h1,Option.some.injEq,Prod.mk.injEq]at h;obtain⟨rfl,rfl⟩:=h;obtain⟨h2,h3⟩:=cnL_ok cs σ σ1 l h1;exact⟨h2,by simp only[renB,h3]⟩
 |.row cs t sz,σ,σ',b',h=>by
  simp only[cnB]at h;cases h1:cnL σ cs with
  |none=>simp[h1]at h
  |some p=>
   obtain⟨σ1,l⟩:=p;simp only[h1,Option.some.injEq,Prod.mk.injEq]at h;obtain⟨rfl,rfl⟩:=h;obtain⟨h2,h3⟩:=cnL_ok cs σ σ1 l h1;exact⟨h2,by simp only[renB,h3]⟩
 |.dead,σ,σ',b',h=>by
  simp only[cnB,Option.some.injEq,Prod.mk.injEq]at h;obtain⟨rfl,rfl⟩:=h;exact⟨CnOk.refl _,rfl⟩
 |.mp cs,σ,σ',b',h=>by
  simp only[cnB]at h;cases h1:cnL σ cs with
  |none=>simp[h1]at h
  |some p=>
   obtain⟨σ1,l⟩:=p;simp only[h1,Option.some.injEq,Prod.mk.injEq]at h;obtain⟨rfl,rfl⟩:=h;obtain⟨h2,h3⟩:=cnL_ok cs σ σ1 l h1;exact⟨h2,by simp only[renB,h3]⟩
 |.defd,σ,σ',b',h=>by simp[cnB]at h
 |.mpu,σ,σ',b',h=>by simp[cnB]at h
 |.sit ..,σ,σ',b',h=>by simp[cnB]at h
 |.loop ..,σ,σ',b',h=>by simp[cnB]at h
theorem renB_more{σ τ:List Nat}:∀(b u:Blk),renB σ b=some u→b.cs.length=b.cs.length→(∀s p sz T ps as bd d,b≠.loop s p sz T ps as bd d)→renB (σ++τ) b=some u
 |.ro own cs,u,h,_,_=>by
  simp only[renB]at h ⊢;cases h1:renL σ cs with
  |none=>simp[h1]at h
  |some a=>rw[renL_more cs a h1];simpa[h1]using h
 |.row cs t sz,u,h,_,_=>by
  simp only[renB]at h ⊢;cases h1:renL σ cs with
  |none=>simp[h1]at h
  |some a=>rw[renL_more cs a h1];simpa[h1]using h
 |.dead,u,h,_,_=>h
 |.defd,u,h,_,_=>h
 |.mpu,u,h,_,_=>h
 |.sit ..,u,h,_,_=>h
 |.mp cs,u,h,_,_=>by
  simp only[renB]at h ⊢;cases h1:renL σ cs with
  |none=>simp[h1]at h
  |some a=>rw[renL_more cs a h1];simpa[h1]using h
 |.loop ..,u,h,_,hh=>absurd rfl (hh _ _ _ _ _ _ _ _)
def reach(st:St):Nat→Nat→List Nat→Option (List Nat×St)
 |fuel,i,σ=>match σ[i]? with
  |none=>some (σ,[])
  |some c=>match fuel with
   |0=>none
   |fuel+1=>match st[c]? with
    |none=>none
    |some b=>match cnB σ b with
     |none=>none
     |some (σ1,b1)=>match reach st fuel (i+1) σ1 with
      |none=>none
      |some (σ2,s)=>some (σ2,b1::s)
theorem cnB_loop{σ σ':List Nat}{b b':Blk}(h:cnB σ b=some (σ',b')):∀s p sz T ps as bd d,b'≠.loop s p sz T ps as bd d:=by
 intro s p sz T ps as bd d hb;subst hb;cases b<;>simp only[cnB]at h<;>first|(split at h<;>cases h)|cases h
theorem reach_ok{st:St}:∀(fuel i:Nat) (σ σ':List Nat) (s:St),i≤σ.length→reach st fuel i σ=some (σ',s)→CnOk σ σ'∧σ'.length=i+s.length∧
  ∀(j:Nat) (b:Blk),s[j]?=some b→∃c b',σ'[i+j]?=some c∧st[c]?=some b'∧renB σ' b=some b'∧(∀s p sz T ps as bd d,b≠.loop s p sz T ps as bd d):=by
 intro fuel
 induction fuel with
 |zero=>
  intro i σ σ' s hi h;unfold reach at h;split at h
  ·rename_i hn;cases h;have:=List.getElem?_eq_none_iff.1 hn;exact⟨CnOk.refl _,by simp;omega,fun j b hb=>by simp at hb⟩
  ·cases h
 |succ fuel ih=>
  intro i σ σ' s hi h;unfold reach at h;split at h
  ·rename_i hn;cases h;have:=List.getElem?_eq_none_iff.1 hn;exact⟨CnOk.refl _,by simp;omega,fun j b hb=>by simp at hb⟩
  ·rename_i c hc;simp only at h;cases hb:st[c]? with
   |none=>simp[hb]at h
   |some b=>
    simp only[hb]at h;cases h1:cnB σ b with
    |none=>simp[h1]at h
    |some p=>
     obtain⟨σ1,b1⟩:=p;simp only[h1]at h;cases h2:reach st fuel (i+1) σ1 with
     |none=>simp[h2]at h
     |some q=>
      obtain⟨σ2,s2⟩:=q;simp only[h2,Option.some.injEq,Prod.mk.injEq]at h;obtain⟨rfl,rfl⟩:=h;obtain⟨g1,g2⟩:=cnB_ok b σ σ1 b1 h1;have hlt:i<σ.length:=(List.getElem?_eq_some_iff.1 hc).1;have hnl:=cnB_loop h1;have hlen:i+1≤σ1.length:=by obtain⟨⟨t,rfl⟩,_⟩:=g1;simp;omega
      obtain⟨g3,g4,g5⟩:=ih (i+1) σ1 σ2 s2 hlen h2;refine⟨g1.trans g3,by simp[g4];omega,fun j x hx=>?_⟩;cases j with
      |zero=>
       simp only[List.getElem?_cons_zero,Option.some.injEq]at hx;subst hx;obtain⟨⟨t,rfl⟩,_⟩:=g1;obtain⟨⟨u,rfl⟩,_⟩:=g3;refine⟨c,b,?_,hb,renB_more b1 b g2 rfl hnl,hnl⟩;rw[Nat.add_zero,List.append_assoc,List.getElem?_append_left hlt];exact hc
      |succ j=>
       simp only[List.getElem?_cons_succ]at hx;have:=g5 j x hx;rwa [show i+1+j=i+(j+1) by omega]at this
theorem FnSat.fitsK{P:Program}{g:FuncId}{args:List V}{st:St}{v:V}{s:St}(h:FnSat P g args st (fun u st'=>Fits st.length [v] s [some u] st')):FnSat P g args st (Is (v,s)):=by
 intro B W0 m w rargs hargs hr;refine(h B W0 m w rargs hargs hr).mono ?_;rintro e w' ⟨u,x,m',st',rfl,e1,e2,e3,σ,us,k1,k2,k3,k4,k5⟩;simp only[renL]at k2;cases h1:renV σ v with
 |none=>simp[h1]at k2
 |some u'=>
  simp only[h1,Option.some.injEq]at k2;subst k2;simp only[List.map_cons,List.map_nil,List.cons.injEq,Option.some.injEq,and_true]at k1;subst k1;exact⟨v,x,renM σ m',s,rfl,keeps_ext k5 (Nat.le_of_eq hr.len) e1,renV_ok v u x h1 e2,e3.ren k4 k3,rfl⟩
def left(k:Nat)(u:V)(st:St):Option (V×St):=match cnV (List.range k) u with
 |some (σ,v)=>match reach st (st.length+1) k σ with
  |some (_,n)=>some (v,n)
  |none=>none
 |none=>none
def deads:Nat→St
 |0=>[]
 |n+1=>.dead::deads n
theorem deads_length:∀n,(deads n).length=n
 |0=>rfl
 |n+1=>by simp[deads,deads_length n]
theorem deads_get:∀(n i:Nat) (b:Blk),(deads n)[i]?=some b→b=.dead
 |0,i,b,h=>by simp[deads]at h
 |n+1,0,b,h=>by simp[deads]at h;exact h.symm
 |n+1,i+1,b,h=>deads_get n i b (by simpa[deads]using h)
def FrOk(P:Program)(g:FuncId)(args:List V)(s:St)(v:V)(n:St):Prop:=FnSat P g args s (Is (v,deads s.length++n))
theorem left_ok{P:Program}{g:FuncId}{args:List V}{s:St}{u:V}{st':St}{v:V}{n:St}(h:FnSat P g args s (Is (u,st')))(hl:left s.length u st'=some (v,n)):FrOk P g args s v n:=by
 unfold left at hl;cases h1:cnV (List.range s.length) u with
 |none=>simp[h1]at hl
 |some p=>
  obtain⟨σ,v'⟩:=p;simp only[h1]at hl;cases h2:reach st' (st'.length+1) s.length σ with
  |none=>simp[h2]at hl
  |some q=>
   obtain⟨σ2,n'⟩:=q;simp only[h2,Option.some.injEq,Prod.mk.injEq]at hl;obtain⟨rfl,rfl⟩:=hl;obtain⟨g1,g2⟩:=cnV_ok u _ σ v' h1;have hlen:s.length≤σ.length:=by obtain⟨⟨t,rfl⟩,_⟩:=g1;simp
   obtain⟨g3,g4,g5⟩:=reach_ok _ _ σ σ2 n' hlen h2;have g6:=g1.trans g3;refine FnSat.fitsK (h.mono ?_);rintro u' st2 hq;cases hq;have hv:renV σ2 v'=some u:=by obtain⟨⟨t,rfl⟩,_⟩:=g3;exact renV_more v' u g2
   refine⟨σ2,[u],rfl,by simp only[renL,hv],⟨by simp[g4,deads_length],fun i c b hi hb hd=>?_⟩,g6.2 List.nodup_range,fun i hi=>?_⟩
   ·rcases Nat.lt_or_ge i s.length with hlt|hge
    ·rw[List.getElem?_append_left (by rw[deads_length];exact hlt)]at hb;exact absurd (deads_get _ _ _ hb) hd
    ·rw[List.getElem?_append_right (by rw[deads_length];exact hge),deads_length]at hb;obtain⟨c',b',k1,k2,k3,_⟩:=g5 _ _ hb;rw[show s.length+(i-s.length)=i by omega]at k1;rw[hi]at k1;cases k1;exact⟨b',.inl k3,k2⟩
   ·obtain⟨⟨t,rfl⟩,_⟩:=g6;rw[List.getElem?_append_left (by simpa using hi)];simp[hi]
section
variable {τ:List Nat} {m m':List MB}
def Fwd(τ:List Nat)(m m':List MB):Prop:=∀b c e,τ[b]?=some c→at? m b=some e→at? m' c=some e
mutual
theorem renV_fwd(hk:Fwd τ m m'):∀(v u:V) (x:Value),renV τ v=some u→real m v=some x→real m' u=some x
 |.ptr b off,u,x,h,hx=>by
  simp only[renV]at h;cases hb:τ[b]? with
  |none=>simp[hb]at h
  |some c=>
   simp only[hb,Option.some.injEq]at h;subst h;obtain⟨e,he,rfl⟩:=real_ptr hx;simp only[real,hk b c e hb he]
 |.slice b off len ex c z,u,x,h,hx=>by
  simp only[renV]at h;cases hb:τ[b]? with
  |none=>simp[hb]at h
  |some d=>
   simp only[hb,Option.some.injEq]at h;subst h;simp only[real]at hx ⊢;cases he:at? m b with
   |none=>simp[he]at hx
   |some e=>simp only[he]at hx;simp only[hk b d e hb he];exact hx
 |.map b,u,x,h,hx=>by
  simp only[renV]at h;cases hb:τ[b]? with
  |none=>simp[hb]at h
  |some c=>
   simp only[hb,Option.some.injEq]at h;subst h;simp only[real]at hx ⊢;cases he:at? m b with
   |none=>simp[he]at hx
   |some e=>simp only[he]at hx;simp only[hk b c e hb he];exact hx
 |.nos b n,u,x,h,hx=>by
  simp only[renV]at h;cases hb:τ[b]? with
  |none=>simp[hb]at h
  |some c=>
   simp only[hb,Option.some.injEq]at h;subst h;simp only[real]at hx ⊢;cases he:at? m b with
   |none=>simp[he]at hx
   |some e=>simp only[he]at hx;simp only[hk b c e hb he];exact hx
 |.yield b,u,x,h,hx=>by
  simp only[renV]at h;cases hb:τ[b]? with
  |none=>simp[hb]at h
  |some c=>
   simp only[hb,Option.some.injEq]at h;subst h;simp only[real]at hx ⊢;cases he:at? m b with
   |none=>simp[he]at hx
   |some e=>simp only[he]at hx;simp only[hk b c e hb he];exact hx
 |.func fn fs cs,u,x,h,hx=>by
  simp only[renV]at h;cases h1:renL τ fs with
  |none=>simp[h1]at h
  |some a=>
   cases h2:renL τ cs with
   |none=>simp[h1,h2]at h
   |some b=>
    simp only[h1,h2,Option.some.injEq]at h;subst h;simp only[real]at hx ⊢;cases g1:realL m fs with
    |none=>simp[g1]at hx
    |some xs=>
     cases g2:realL m cs with
     |none=>simp[g1,g2]at hx
     |some ys=>simp only[g1,g2]at hx;simp only[renL_fwd hk fs a xs h1 g1,renL_fwd hk cs b ys h2 g2];exact hx
 |.iface t v,u,x,h,hx=>by
  simp only[renV]at h;cases h1:renV τ v with
  |none=>simp[h1]at h
  |some a=>
   simp only[h1,Option.some.injEq]at h;subst h;simp only[real]at hx ⊢;cases g1:real m v with
   |none=>simp[g1]at hx
   |some y=>simp only[g1]at hx;simp only[renV_fwd hk v a y h1 g1];exact hx
 |.agg cs,u,x,h,hx=>by
  simp only[renV]at h;cases h1:renL τ cs with
  |none=>simp[h1]at h
  |some a=>
   simp only[h1,Option.some.injEq]at h;subst h;simp only[real]at hx ⊢;cases g1:realL m cs with
   |none=>simp[g1]at hx
   |some y=>simp only[g1]at hx;simp only[renL_fwd hk cs a y h1 g1];exact hx
 |.tuple cs,u,x,h,hx=>by
  simp only[renV]at h;cases h1:renL τ cs with
  |none=>simp[h1]at h
  |some a=>
   simp only[h1,Option.some.injEq]at h;subst h;simp only[real]at hx ⊢;cases g1:realL m cs with
   |none=>simp[g1]at hx
   |some y=>simp only[g1]at hx;simp only[renL_fwd hk cs a y h1 g1];exact hx
 |.bool _,u,x,h,hx|.int _ _,u,x,h,hx|.str _,u,x,h,hx|.nilPtr,u,x,h,hx|.nilSlice,u,x,h,hx|.nilFunc,u,x,h,hx|.nilIface,u,x,h,hx|.nilMap,u,x,h,hx|.gp _ _,u,x,h,hx|.lst ..,u,x,h,hx|.lptr ..,u,x,h,hx=>by
  simp only[renV,Option.some.injEq]at h;subst h;simpa only[real]using hx
theorem renL_fwd(hk:Fwd τ m m'):∀(l l':List V) (x:List Value),renL τ l=some l'→realL m l=some x→realL m' l'=some x
 |[],l',x,h,hx=>by simp only[renL,Option.some.injEq]at h;subst h;simpa[realL]using hx
 |v::r,l',x,h,hx=>by
  simp only[renL]at h;cases h1:renV τ v with
  |none=>simp[h1]at h
  |some a=>
   cases h2:renL τ r with
   |none=>simp[h1,h2]at h
   |some b=>
    simp only[h1,h2,Option.some.injEq]at h;subst h;obtain⟨y,ys,g1,g2,rfl⟩:=realL_cons hx;exact realL_mk (renV_fwd hk v a y h1 g1) (renL_fwd hk r b ys h2 g2)
end
end
theorem renL_back{τ:List Nat}:∀{l l':List V} {i:Nat} {u:V},renL τ l=some l'→l'[i]?=some u→∃v,renV τ v=some u∧l[i]?=some v
 |[],l',i,u,h,hi=>by simp only[renL,Option.some.injEq]at h;subst h;simp at hi
 |w::r,l',i,u,h,hi=>by
  simp only[renL]at h;cases h1:renV τ w with
  |none=>simp[h1]at h
  |some a=>
   cases h2:renL τ r with
   |none=>simp[h1,h2]at h
   |some b=>
    simp only[h1,h2,Option.some.injEq]at h;subst h;cases i with
    |zero=>simp only[List.getElem?_cons_zero,Option.some.injEq]at hi;subst hi;exact⟨w,h1,rfl⟩
    |succ i=>
     obtain⟨v,k1,k2⟩:=renL_back h2 (by simpa using hi);exact⟨v,k1,by simpa using k2⟩
def outB(τ:List Nat):Blk→Option Blk
 |.ro true cs=>match renL τ cs with
  |some l=>some (.ro true l)
  |none=>none
 |.row cs t sz=>match renL τ cs with
  |some l=>some (.row l t sz)
  |none=>none
 |.mp cs=>match renL τ cs with
  |some l=>some (.mp l)
  |none=>none
 |_=>some .dead
def outS(τ:List Nat):St→Option St
 |[]=>some []
 |b::r=>match outB τ b with
  |some c=>match outS τ r with
   |some s=>some (c::s)
   |none=>none
  |none=>none
theorem outS_get{τ:List Nat}:∀{n s:St},outS τ n=some s→s.length=n.length∧∀(i:Nat) (c:Blk),s[i]?=some c→∃b,n[i]?=some b∧outB τ b=some c
 |[],s,h=>by simp only[outS,Option.some.injEq]at h;subst h;exact⟨rfl,fun i c hc=>by simp at hc⟩
 |b::r,s,h=>by
  simp only[outS]at h;cases h1:outB τ b with
  |none=>simp[h1]at h
  |some c=>
   cases h2:outS τ r with
   |none=>simp[h1,h2]at h
   |some q=>
    simp only[h1,h2,Option.some.injEq]at h;subst h;obtain⟨k1,k2⟩:=outS_get h2;refine⟨by simp[k1],fun i x hx=>?_⟩;cases i with
    |zero=>simp only[List.getElem?_cons_zero,Option.some.injEq]at hx;subst hx;exact⟨b,rfl,h1⟩
    |succ i=>simp only[List.getElem?_cons_succ]at hx ⊢;exact k2 i x hx
theorem outB_live{τ:List Nat}{b c:Blk}(h:outB τ b=some c):(c.live=true→b.live=true)∧(c.rw=true→b.rw=true):=by
 cases b with
 |ro own cs=>
  cases own with
  |true=>simp only[outB]at h;split at h<;>cases h;exact⟨fun _=>rfl,fun h=>h⟩
  |false=>cases h;exact⟨fun _=>rfl,fun h=>h⟩
 |row cs t sz=>simp only[outB]at h;split at h<;>cases h;exact⟨fun _=>rfl,fun h=>h⟩
 |mp cs=>simp only[outB]at h;split at h<;>cases h;exact⟨fun _=>rfl,fun h=>h⟩
 |mpu=>cases h;exact⟨fun h=>(by cases h),fun h=>(by cases h)⟩
 |sit s p=>cases h;exact⟨fun h=>(by cases h),fun h=>(by cases h)⟩
 |dead=>cases h;exact⟨fun h=>h,fun h=>h⟩
 |defd=>cases h;exact⟨fun h=>(by cases h),fun h=>(by cases h)⟩
 |loop=>cases h;exact⟨fun h=>(by cases h),fun h=>(by cases h)⟩
def namesFrom(a:Nat):Nat→List Nat
 |0=>[]
 |n+1=>a::namesFrom (a+1) n
theorem namesFrom_get:∀(n a i:Nat) (c:Nat),(namesFrom a n)[i]?=some c→c=a+i
 |0,a,i,c,h=>by simp[namesFrom]at h
 |n+1,a,0,c,h=>by simp[namesFrom]at h;exact h.symm
 |n+1,a,i+1,c,h=>by
  have:=namesFrom_get n (a+1) i c (by simpa[namesFrom]using h);omega
section
variable {B:Nat} {W0 w w':World} {m m2:List MB} {st s2 n:St} {σ:List Nat}
theorem Rel.back(h:Rel B W0 m st w)(hs:∀(i c:Nat),σ[i]?=some c→∃e,m[c]?=some e)(h2:Rel w.heap.size w m2 (deads σ.length++n) w')(he:Ext (renM σ m) m2){n':St}
  (hn:outS (σ++namesFrom st.length n.length) n=some n'):Fwd (σ++namesFrom st.length n.length) m2 (m++m2.drop σ.length)∧Rel B W0 (m++m2.drop σ.length) (st++n') w':=by
 have hm2:m2.length=σ.length+n.length:=by rw[h2.len];simp[deads_length]
 have hml:m.length=st.length:=h.len;have hext:Ext m (m++m2.drop σ.length):=fun b x hb=>by
  rw[List.getElem?_append_left (List.getElem?_eq_some_iff.1 hb).1];exact hb
 have hfw:Fwd (σ++namesFrom st.length n.length) m2 (m++m2.drop σ.length):=by
  intro b c e hb hbe;rcases Nat.lt_or_ge b σ.length with hlt|hge
  ·rw[List.getElem?_append_left hlt]at hb;obtain⟨e',he'⟩:=hs b c hb;have h1:(renM σ m)[b]?=some e':=by unfold renM;rw[List.getElem?_map,hb];simp[he']
   have h3:=he b e' h1;rw[at_get hbe]at h3;cases h3;exact at_mono hext (at_of he' (at_solid hbe))
  ·rw[List.getElem?_append_right hge]at hb;have hc:=namesFrom_get _ _ _ _ hb;subst hc;refine at_of ?_ (at_solid hbe);rw[List.getElem?_append_right (by omega),List.getElem?_drop];rw[show σ.length+(st.length+(b-σ.length)-m.length)=b by omega];exact at_get hbe
 refine⟨hfw,?_⟩;obtain⟨o1,o2⟩:=outS_get hn;have h1:=h.later h2.below;have old:∀{j:Nat} {b:Blk} {e:MB},(st++n')[j]?=some b→(m++m2.drop σ.length)[j]?=some e→
   (j<st.length∧st[j]?=some b∧m[j]?=some e)∨(∃i c,j=st.length+i∧(deads σ.length++n)[σ.length+i]?=some c∧m2[σ.length+i]?=some e∧outB (σ++namesFrom st.length n.length) c=some b):=by
  intro j b e hj hje;rcases Nat.lt_or_ge j st.length with hlt|hge
  ·rw[List.getElem?_append_left hlt]at hj;rw[List.getElem?_append_left (hml▸hlt)]at hje;exact .inl ⟨hlt,hj,hje⟩
  ·rw[List.getElem?_append_right hge]at hj;rw[List.getElem?_append_right (hml▸hge),hml,List.getElem?_drop]at hje;obtain⟨c,k1,k2⟩:=o2 _ _ hj;refine .inr ⟨j-st.length,c,by omega,?_,hje,k2⟩;rw[List.getElem?_append_right (by rw[deads_length];omega),deads_length,show σ.length+(j-st.length)-σ.length=j-st.length by omega];exact k1
 have isnew:∀{i:Nat} {c b:Blk} {e:MB},(deads σ.length++n)[i]?=some c→m2[i]?=some e→outB (σ++namesFrom st.length n.length) c=some b→b.live=true→w.heap.size≤e.blk:=by
  intro i c b e hi hie ho hl;cases c with
  |row cs t sz=>exact(h2.blk _ _ _ hi hie).1
  |ro own cs=>
   cases own with
   |true=>exact(h2.blk _ _ _ hi hie).1 rfl
   |false=>cases ho;cases hl
  |dead=>cases ho;cases hl
  |mp cs=>exact(h2.blk _ _ _ hi hie).1
  |mpu=>cases ho;cases hl
  |sit s p=>cases ho;cases hl
  |defd=>cases ho;cases hl
  |loop=>cases ho;cases hl
 refine⟨by simp[hml,o1,hm2],h1.base,h1.below,fun j b e hj hje=>?_,fun i j b c d e hij hi hbr hj hcl hd hje=>?_,h.glob⟩
 ·rcases old hj hje with⟨_,hj,hje⟩|⟨i,c,rfl,hc,hje,ho⟩
  ·exact(h1.blk j b e hj hje).mono hext
  ·have hk:=h2.blk _ c e hc hje;cases c with
   |dead=>cases ho;trivial
   |mpu=>cases ho;trivial
   |sit s p=>cases ho;trivial
   |mp cs=>
    simp only[outB]at ho;cases hl:renL (σ++namesFrom st.length n.length) cs with
    |none=>simp[hl]at ho
    |some l=>
     simp only[hl,Option.some.injEq]at ho;subst ho;obtain⟨a1,es,c,xs,a3,a4,a5⟩:=hk;exact⟨Nat.le_trans h.base a1,es,c,xs,a3,renL_fwd hfw cs l xs hl a4,a5⟩
   |defd=>cases ho;trivial
   |loop=>cases ho;trivial
   |ro own cs=>
    cases own with
    |false=>cases ho;trivial
    |true=>
     simp only[outB]at ho;cases hl:renL (σ++namesFrom st.length n.length) cs with
     |none=>simp[hl]at ho
     |some l=>
      simp only[hl,Option.some.injEq]at ho;subst ho;obtain⟨a0,arr,t,fz,a1,a2⟩:=hk;refine⟨fun _=>Nat.le_trans h.base (a0 rfl),arr,t,fz,a1,fun i v hv=>?_⟩;obtain⟨u,hu,hg⟩:=renL_back hl hv;obtain⟨x,hx,ha⟩:=a2 i u hg;exact⟨x,renV_fwd hfw u v x hu hx,ha⟩
   |row cs t sz=>
    simp only[outB]at ho;cases hl:renL (σ++namesFrom st.length n.length) cs with
    |none=>simp[hl]at ho
    |some l=>
     simp only[hl,Option.some.injEq]at ho;subst ho;obtain⟨a1,a2,arr,xs,a3,a4,a5⟩:=hk;exact⟨Nat.le_trans h.base a1,a2,arr,xs,a3,renL_fwd hfw cs l xs hl a4,a5⟩
 ·rcases old hi hd with⟨_,hi,hd⟩|⟨i',b',rfl,hi',hd,hob⟩
  ·rcases old hj hje with⟨_,hj,hje⟩|⟨j',c',rfl,hj',hje,hoc⟩
   ·exact h.inj i j b c d e hij hi hbr hj hcl hd hje
   ·have rwl:b.live=true:=by cases b<;>simp_all [Blk.rw,Blk.live]
    have l1:=(h.blk i b d hi hd).lt rwl;have:=isnew hj' hje hoc hcl;omega
  ·rcases old hj hje with⟨_,hj,hje⟩|⟨j',c',rfl,hj',hje,hoc⟩
   ·have l1:=(h.blk j c e hj hje).lt hcl;have rwl:b.live=true:=by cases b<;>simp_all [Blk.rw,Blk.live]
    have:=isnew hi' hd hob rwl;omega
   ·exact h2.inj _ _ b' c' d e (by omega) hi' ((outB_live hob).2 hbr) hj' ((outB_live hoc).1 hcl) hd hje
end
/-- Calls by what they see: a function, its arguments, the blocks these reach; a value, and new blocks. -/
abbrev Fram:=FuncId→List V→St→Option (V×St)
def FramOk(P:Program)(f:Fram):Prop:=∀g args s v n,f g args s=some (v,n)→FrOk P g args s v n
def frameC(f:Fram)(g:FuncId)(args:List V)(st:St):Option (V×St):=match cnL [] args with
 |none=>none
 |some (σ0,args')=>match reach st (st.length+1) 0 σ0 with
  |none=>none
  |some (σ,s)=>match f g args' (s.map Blk.toRo)with
   |none=>none
   |some (v,n)=>match renV (σ++namesFrom st.length n.length) v with
    |none=>none
    |some u=>match outS (σ++namesFrom st.length n.length) n with
     |none=>none
     |some n'=>some (u,st++n')
theorem frameC_ok{P:Program}{f:Fram}(hf:FramOk P f){g:FuncId}{args:List V}{st:St}{r:V×St}(h:frameC f g args st=some r):FnSat P g args st (Is r):=by
 unfold frameC at h;cases h1:cnL [] args with
 |none=>simp[h1]at h
 |some p=>
  obtain⟨σ0,args'⟩:=p;simp only[h1]at h;cases h2:reach st (st.length+1) 0 σ0 with
  |none=>simp[h2]at h
  |some q=>
   obtain⟨σ,s⟩:=q;simp only[h2]at h;cases h3:f g args' (s.map Blk.toRo)with
   |none=>simp[h3]at h
   |some q3=>
    obtain⟨v,n⟩:=q3;simp only[h3]at h;cases h4:renV (σ++namesFrom st.length n.length) v with
    |none=>simp[h4]at h
    |some u=>
     simp only[h4]at h;cases h5:outS (σ++namesFrom st.length n.length) n with
     |none=>simp[h5]at h
     |some n'=>
      simp only[h5,Option.some.injEq]at h;subst h;obtain⟨g1,g2⟩:=cnL_ok args _ σ0 args' h1;obtain⟨g3,g4,g5⟩:=reach_ok _ _ σ0 σ s (Nat.zero_le _) h2;have hfr:=hf g args' _ v n h3;intro B W0 m w rargs hargs hr;have hargs2:renL σ args'=some args:=by obtain⟨⟨t,rfl⟩,_⟩:=g3;exact renL_more args' args g2
      have hsl:s.length=σ.length:=by omega
      have hin:∀(i c:Nat),σ[i]?=some c→∃e,m[c]?=some e:=by
       intro i c hc;have hi:i<s.length:=by rw[hsl];exact(List.getElem?_eq_some_iff.1 hc).1
       obtain⟨c',b',k1,k2,_⟩:=g5 i s[i] (List.getElem?_eq_getElem hi);rw[Nat.zero_add,hc]at k1;cases k1;obtain⟨e,he,_⟩:=hr.at k2;exact⟨e,he⟩
      have hrel:Rel w.heap.size w (renM σ m) (s.map Blk.toRo) w:=by
       refine Rel.ofRo hr.gok (by simp[renM,hsl]) fun i b e hb he=>?_;rw[List.getElem?_map]at hb;cases hsi:s[i]? with
       |none=>simp[hsi]at hb
       |some bb=>
        simp only[hsi,Option.map_some,Option.some.injEq]at hb;subst hb;obtain⟨c,b',k1,k2,k3,_⟩:=g5 i bb hsi;rw[Nat.zero_add]at k1;obtain⟨e',k4,k5⟩:=hr.at k2;unfold renM at he;rw[List.getElem?_map,k1]at he;simp only[Option.map_some,k4,Option.getD_some,Option.some.injEq]at he;subst he;exact⟨(renB_ok k3 k5).toRo w.heap.size,toRo_rw bb⟩
      refine(hfr w.heap.size w (renM σ m) w rargs (renL_ok args' args rargs hargs2 hargs) hrel).mono ?_;rintro e w' ⟨v',x,m2,st',rfl,e1,e2,e3,hq⟩;cases hq;rw[List.length_map,hsl]at e3;obtain⟨hfw,hrl⟩:=hr.back hin e3 e1 h5;refine⟨u,x,m++m2.drop σ.length,st++n',rfl,fun b x hb=>?_,renV_fwd hfw v u x h4 e2,hrl,rfl⟩;rw[List.getElem?_append_left (List.getElem?_eq_some_iff.1 hb).1];exact hb
structure EntF where
 g:Nat
 args:List V
 st:St
 v:V
 n:St
def EntFOk(P:Program)(e:EntF):Prop:=FrOk P e.g e.args e.st e.v e.n
def seekF(g:Nat)(args:List V)(st:St):List EntF→Option (V×St)
 |[]=>none
 |e::r=>bif Nat.beq e.g g&&(eqLL e.args args&&eqSt e.st st)then some (e.v,e.n)else seekF g args st r
theorem seekF_ok{P:Program}{g:Nat}{args:List V}{st:St}{v:V}{n:St}:∀{es:List EntF},(∀e∈es,EntFOk P e)→seekF g args st es=some (v,n)→FrOk P g args st v n
 |[],_,h=>by cases h
 |e::es,hE,h=>by
  simp only[seekF]at h;cases hb:(Nat.beq e.g g&&(eqLL e.args args&&eqSt e.st st))with
  |false=>rw[hb,cond_false]at h;exact seekF_ok (fun e he=>hE e (List.mem_cons_of_mem _ he)) h
  |true=>
   rw[hb,cond_true]at h;cases h;simp only[Bool.and_eq_true]at hb;have h1:=Nat.eq_of_beq_eq_true hb.1;have h2:=eqLL_ok _ _ hb.2.1;have h3:=eqSt_ok hb.2.2;have:=hE e List.mem_cons_self;unfold EntFOk at this;rw[h1,h2,h3]at this;exact this
def EF(P:Program)(gs:FuncId→Bool)(kn:List EntF)(ct:Call)(lim:Nat):Nat→Call
 |0=>fun _ _ _=>none
 |n+1=>fun tgt args st=>match ct tgt args st with
  |some r=>some r
  |none=>match tgt with
   |.fn g=>match(bif gs g then frameC (fun g args s=>forced lim args s fun args s=>match seekF g args s kn with
     |some r=>some r
     |none=>match evalFn P (EF P gs kn ct lim n) lim g args s with
      |some (u,s')=>left s.length u s'
      |none=>none) g args st else none)with
    |some r=>some r
    |none=>bif gs g then none else forced lim args st fun args st=>evalFn P (EF P gs kn ct lim n) lim g args st
   |.yld l=>forced lim args st fun args st=>evalYld P (EF P gs kn ct lim n) lim l args st
theorem EF_ok{P:Program}(hm:P.follows .mixedOrders=true){gs:FuncId→Bool}{kn:List EntF}(hE:∀e∈kn,EntFOk P e){ct:Call}(hct:CallOk P ct)(lim:Nat):∀n,CallOk P (EF P gs kn ct lim n)
 |0=>fun tgt args st r h=>by cases h
 |n+1=>fun tgt args st r h=>by
  simp only[EF]at h;split at h
  ·rename_i q hq;cases h;exact hct tgt args st _ hq
  ·split at h
   ·rename_i g _;split at h
    ·rename_i q hq;cases h;cases hg:gs g with
     |false=>rw[hg]at hq;cases hq
     |true=>
      rw[hg,cond_true]at hq;refine frameC_ok (P:=P) ?_ hq;intro g' args' s v nn hv;simp only[forced_eq]at hv;split at hv
      ·rename_i q2 hq2;cases hv;exact seekF_ok hE hq2
      ·split at hv
       ·rename_i u s' hu;exact left_ok (evalFn_ok hm (EF_ok hm hE hct lim n) hu) hv
       ·cases hv
    ·cases hg:gs g with
     |true=>rw[hg]at h;cases h
     |false=>
      rw[hg,cond_false,forced_eq]at h;exact evalFn_ok hm (EF_ok hm hE hct lim n) h
   ·rw[forced_eq]at h;exact evalYld_ok hm (EF_ok hm hE hct lim n) h
def isF(k:Nat)(o:Option (V×St))(v:V)(n:St):Bool:=match o with
 |some (u,s)=>match left k u s with
  |some (v',n')=>eqVV v' v&&eqSt n' n
  |none=>false
 |none=>false
theorem entf_ok{P:Program}(hm:P.follows .mixedOrders=true){gs:FuncId→Bool}{kn:List EntF}(hE:∀e∈kn,EntFOk P e){ct:Call}(hct:CallOk P ct){lim n:Nat}{e:EntF}
  (h:isF e.st.length (evalFn P (EF P gs kn ct lim n) lim e.g e.args e.st) e.v e.n=true):EntFOk P e:=by
 unfold isF at h;split at h
 ·rename_i u s hu;split at h
  ·rename_i v' n' hl;rw[Bool.and_eq_true]at h;have:=left_ok (evalFn_ok hm (EF_ok hm hE hct lim n) hu) hl;rw[eqVV_ok _ _ h.1,eqSt_ok h.2]at this;exact this
  ·cases h
 ·cases h
theorem entf_nil{P:Program}:∀e∈([]:List EntF),EntFOk P e:=fun e h=>by cases h
theorem entf_cons{P:Program}{e:EntF}{es:List EntF}(h:EntFOk P e)(hs:∀e∈es,EntFOk P e):∀e'∈e::es,EntFOk P e':=fun e' he=>by
 rcases List.mem_cons.1 he with rfl|he
 ·exact h
 ·exact hs e' he
end Go.Vm
namespace Go.Vm
set_option linter.unusedSectionVars false
set_option linter.unusedVariables false
open Go.RowKit
section
variable [G:Glob]
mutual
theorem real_plain{Φ Ψ:Frz}{m m':List MB}:∀(v:V) (x:Value),v.plain=true→@real G Φ m v=some x→@real G Ψ m' v=some x
 |.bool _,_,_,hx|.int _ _,_,_,hx|.str _,_,_,hx|.nilPtr,_,_,hx|.nilSlice,_,_,hx|.nilFunc,_,_,hx|.nilIface,_,_,hx|.nilMap,_,_,hx|.gp _ _,_,_,hx=>by
  simpa[real]using hx
 |.ptr b off,x,hf,_=>by cases hf
 |.slice b off len ex c z,x,hf,_=>by cases hf
 |.yield b,x,hf,_=>by cases hf
 |.map b,x,hf,_=>by cases hf
 |.nos ..,x,hf,_=>by cases hf
 |.lst ..,x,hf,_=>by cases hf
 |.lptr ..,x,hf,_=>by cases hf
 |.func fn fs cs,x,hf,hx=>by
  simp only[V.plain,Bool.and_eq_true]at hf;simp only[real]at hx ⊢;cases h1:@realL G Φ m fs with
  |none=>simp[h1]at hx
  |some a=>
   cases h2:@realL G Φ m cs with
   |none=>simp[h1,h2]at hx
   |some b=>simp only[h1,h2]at hx;simp only[realL_plain (Ψ:=Ψ) (m':=m') fs a hf.1 h1,realL_plain (Ψ:=Ψ) (m':=m') cs b hf.2 h2];exact hx
 |.iface t v,x,hf,hx=>by
  simp only[V.plain]at hf;simp only[real]at hx ⊢;cases h1:@real G Φ m v with
  |none=>simp[h1]at hx
  |some a=>simp only[h1]at hx;simp only[real_plain (Ψ:=Ψ) (m':=m') v a hf h1];exact hx
 |.agg cs,x,hf,hx=>by
  simp only[V.plain]at hf;simp only[real]at hx ⊢;cases h1:@realL G Φ m cs with
  |none=>simp[h1]at hx
  |some a=>simp only[h1]at hx;simp only[realL_plain (Ψ:=Ψ) (m':=m') cs a hf h1];exact hx
 |.tuple cs,x,hf,hx=>by
  simp only[V.plain]at hf;simp only[real]at hx ⊢;cases h1:@realL G Φ m cs with
  |none=>simp[h1]at hx
  |some a=>simp only[h1]at hx;simp only[realL_plain (Ψ:=Ψ) (m':=m') cs a hf h1];exact hx
theorem realL_plain{Φ Ψ:Frz}{m m':List MB}:∀(l:List V) (x:List Value),plainL l=true→@realL G Φ m l=some x→@realL G Ψ m' l=some x
 |[],_,_,hx=>by simpa[realL]using hx
 |v::r,x,hf,hx=>by
  simp only[plainL,Bool.and_eq_true]at hf;simp only[realL]at hx ⊢;cases h1:@real G Φ m v with
  |none=>simp[h1]at hx
  |some a=>
   cases h2:@realL G Φ m r with
   |none=>simp[h1,h2]at hx
   |some b=>simp only[h1,h2]at hx;simp only[real_plain (Ψ:=Ψ) (m':=m') v a hf.1 h1,realL_plain (Ψ:=Ψ) (m':=m') r b hf.2 h2];exact hx
end
@[reducible] def Frz.of (w:World):Frz:=⟨fun k=>w.heap[k]?⟩
theorem LstOk.more{Φ Ψ:Frz}(h:∀k o,Φ.φ k=some o→Ψ.φ k=some o){x:Value}{n:Nat}{xs:List Value}(hl:@LstOk Φ x n xs):@LstOk Ψ x n xs:=by
 rcases hl with hl|⟨b,off,cap,arr,t,fz,h1,h2,h3,h4,h5⟩
 ·exact .inl hl
 ·exact .inr ⟨b,off,cap,arr,t,fz,h1,h2,h3,h _ _ h4,h5⟩
mutual
theorem real0_more{Φ Ψ:Frz}(h:∀k o,Φ.φ k=some o→Ψ.φ k=some o):∀(v:V) (x:Value),@real0 Φ v=some x→@real0 Ψ v=some x
 |.bool _,_,hx|.int _ _,_,hx|.str _,_,hx|.nilPtr,_,hx|.nilSlice,_,hx=>by simpa only[real0]using hx
 |.lst y n cs,x,hx=>by
  simp only[real0]at hx ⊢;cases h1:@real0L Φ cs with
  |none=>simp[h1]at hx
  |some xs=>
   simp only[h1]at hx;obtain⟨rfl,h2⟩:=@lstV_ok G Φ _ _ _ _ hx;simp only[real0L_more h cs xs h1];exact @lstV_mk G Ψ _ _ _ (h2.more h)
 |.nilFunc,_,hx|.nilIface,_,hx|.nilMap,_,hx|.gp _ _,_,hx|.ptr ..,_,hx|.slice ..,_,hx|.yield _,_,hx|.map _,_,hx|.func ..,_,hx|.iface ..,_,hx|.agg _,_,hx|.tuple _,_,hx|.lptr ..,_,hx|.nos ..,_,hx=>by simp[real0]at hx
theorem real0L_more{Φ Ψ:Frz}(h:∀k o,Φ.φ k=some o→Ψ.φ k=some o):∀(l:List V) (x:List Value),@real0L Φ l=some x→@real0L Ψ l=some x
 |[],_,hx=>by simpa only[real0L]using hx
 |v::r,x,hx=>by
  simp only[real0L]at hx ⊢;cases h1:@real0 Φ v with
  |none=>simp[h1]at hx
  |some a=>
   cases h2:@real0L Φ r with
   |none=>simp[h1,h2]at hx
   |some b=>simp only[h1,h2]at hx;simp only[real0_more h v a h1,real0L_more h r b h2];exact hx
end
theorem Rel.more{Φ:Frz}{B:Nat}{W0 w:World}{m:List MB}{st:St}(h:@Rel G Φ B W0 m st w):∀k o,Φ.φ k=some o→(Frz.of w).φ k=some o:=fun k o hk=>h.frz hk
mutual
theorem real_more{Φ Ψ:Frz}(h:∀k o,Φ.φ k=some o→Ψ.φ k=some o){m:List MB}:∀(v:V) (x:Value),@real G Φ m v=some x→@real G Ψ m v=some x
 |.bool _,_,hx|.int _ _,_,hx|.str _,_,hx|.nilPtr,_,hx|.nilSlice,_,hx|.nilFunc,_,hx|.nilIface,_,hx|.nilMap,_,hx|.gp _ _,_,hx|.ptr ..,_,hx|.slice ..,_,hx|.yield _,_,hx|.map _,_,hx|.nos ..,_,hx=>by
  simpa only[real]using hx
 |.lst y n cs,x,hx=>by
  simp only[real]at hx ⊢;cases h1:@real0L Φ cs with
  |none=>simp[h1]at hx
  |some xs=>
   simp only[h1]at hx;obtain⟨rfl,h2⟩:=@lstV_ok G Φ _ _ _ _ hx;simp only[real0L_more h cs xs h1];exact @lstV_mk G Ψ _ _ _ (h2.more h)
 |.lptr y n cs o,x,hx=>by
  obtain⟨xs,b,off,cap,arr,t,fz,q0,rfl,rfl,q1,q2,q3,q4⟩:=@real_lptr G Φ m _ _ _ _ _ hx;exact @real_lptr_mk G Ψ m _ _ _ _ _ _ _ _ _ _ (real0L_more h cs xs q0) q1 q2 (h _ _ q3) q4
 |.func fn fs cs,x,hx=>by
  simp only[real]at hx ⊢;cases h1:@realL G Φ m fs with
  |none=>simp[h1]at hx
  |some a=>
   cases h2:@realL G Φ m cs with
   |none=>simp[h1,h2]at hx
   |some b=>simp only[h1,h2]at hx;simp only[realL_more h fs a h1,realL_more h cs b h2];exact hx
 |.iface t v,x,hx=>by
  simp only[real]at hx ⊢;cases h1:@real G Φ m v with
  |none=>simp[h1]at hx
  |some a=>simp only[h1]at hx;simp only[real_more h v a h1];exact hx
 |.agg cs,x,hx=>by
  simp only[real]at hx ⊢;cases h1:@realL G Φ m cs with
  |none=>simp[h1]at hx
  |some a=>simp only[h1]at hx;simp only[realL_more h cs a h1];exact hx
 |.tuple cs,x,hx=>by
  simp only[real]at hx ⊢;cases h1:@realL G Φ m cs with
  |none=>simp[h1]at hx
  |some a=>simp only[h1]at hx;simp only[realL_more h cs a h1];exact hx
theorem realL_more{Φ Ψ:Frz}(h:∀k o,Φ.φ k=some o→Ψ.φ k=some o){m:List MB}:∀(l:List V) (x:List Value),@realL G Φ m l=some x→@realL G Ψ m l=some x
 |[],_,hx=>by simpa only[realL]using hx
 |v::r,x,hx=>by
  simp only[realL]at hx ⊢;cases h1:@real G Φ m v with
  |none=>simp[h1]at hx
  |some a=>
   cases h2:@realL G Φ m r with
   |none=>simp[h1,h2]at hx
   |some b=>simp only[h1,h2]at hx;simp only[real_more h v a h1,realL_more h r b h2];exact hx
end
theorem GOk.all{Φ:Frz}{w:World}(h:@GOk G Φ w.heap.size w):@GOk G (Frz.of w) w.heap.size w:=by
 refine⟨fun k cs hk=>?_,h.2.1,fun k o hk=>⟨(Array.getElem?_eq_some_iff.1 hk).1,hk⟩⟩;obtain⟨h1,arr,t,fz,h2,h3,h4⟩:=h.1 k cs hk;refine⟨h1,arr,t,fz,h2,fun i v hi=>?_,h4⟩;obtain⟨x,hx,ha⟩:=h3 i v hi;exact⟨x,real_more (Φ:=Φ) (Ψ:=Frz.of w) (fun k o hk=>(h.2.2 k o hk).2) v x hx,ha⟩
theorem frz_sat{Φ:Frz}{P:Program}{g:FuncId}{args:List V}{st:St}{v:V}(hv:v.plain=true)
  (h:∀(B:Nat) (W0 w:World) (m:List MB) (rargs:List Value),@Rel G Φ B W0 m st w→@realL G Φ m args=some rargs→∃args',@realL G (Frz.of w) [] args'=some rargs∧@FnSat G (Frz.of w) P g args' [] (Is (v,[]))):@FnSat G Φ P g args st (Is (v,st)):=by
 intro B W0 m w rargs ha hr;obtain⟨args',h1,h2⟩:=h B W0 w m rargs hr ha;refine(h2 w.heap.size w [] w rargs h1 (@Rel.empty G (Frz.of w) w hr.gok.all)).mono ?_;rintro e w' ⟨u,x,m',s',rfl,_,hx,hrel,hq⟩;cases hq;exact⟨v,x,m,st,rfl,Ext.refl m,real_plain v x hv hx,@Rel.later G Φ _ _ _ _ _ _ hr (@Rel.below G (Frz.of w) _ _ _ _ _ hrel),rfl⟩
theorem frz_law{P:Program}{g:FuncId}{args:List V}{rargs:List Value}{w:World}(h:@FnSat G (Frz.of w) P g args [] (fun v _=>v=.bool true))(ha:@realL G (Frz.of w) [] args=some rargs)(hg:@GOk G (Frz.of w) w.heap.size w):
  Calls P g rargs.toArray w (fun e w'=>e=.returned (.bool true)∧Below w.heap.size w w'):=
 @law_of_sat G (Frz.of w) P g args rargs h ha w hg
end
section
variable [G:Glob]
def viewC(st:St)(sz:Nat):V→Option (Bool×(Nat×List V))
 |.nilSlice=>some (true,(0,[]))
 |.lst _ n cs=>some (Nat.beq cs.length (n*sz),(n,cs))
 |.slice b off n _ _ _=>match st[b]? with
  |some (.row cs _ _)=>some (Nat.ble (off+n*sz) cs.length,(n,(cs.drop off).take (n*sz)))
  |some (.ro _ cs)=>some (Nat.ble (off+n*sz) cs.length,(n,(cs.drop off).take (n*sz)))
  |_=>none
 |.nos b n=>match st[b]? with
  |some (.row cs _ _)=>some (Nat.ble (n*sz) cs.length,(n,cs.take (n*sz)))
  |some (.ro _ cs)=>some (Nat.ble (n*sz) cs.length,(n,cs.take (n*sz)))
  |_=>none
 |_=>none
def leafV:V→Bool
 |.bool _|.int _ _|.str _|.nilPtr|.nilSlice|.lst .. =>true
 |_=>false
theorem leaf_real0{Φ:Frz}{m:List MB}{v:V}{x:Value}(h:leafV v=true)(hx:@real G Φ m v=some x):@real0 Φ v=some x:=by
 cases v<;>first|(simp[leafV]at h;done)|(simp only[real]at hx;simp only[real0];exact hx)
theorem leafL_real0{Φ:Frz}{m:List MB}:∀{l:List V} {x:List Value},l.all leafV=true→@realL G Φ m l=some x→@real0L Φ l=some x
 |[],x,_,hx=>by simpa only[realL,real0L]using hx
 |v::r,x,h,hx=>by
  simp only[List.all_cons,Bool.and_eq_true]at h;obtain⟨a,b,h1,h2,rfl⟩:=@realL_cons G Φ m _ _ _ hx;simp only[real0L,leaf_real0 h.1 h1,leafL_real0 h.2 h2]
theorem viewC_ok{Φ:Frz}{B:Nat}{W0 w:World}{m:List MB}{st:St}(hr:@Rel G Φ B W0 m st w){sz n:Nat}{v:V}{cs:List V}{x:Value}(hv:viewC st sz v=some (true,(n,cs)))(hl:cs.all leafV=true)(hx:@real G Φ m v=some x)(hs:0<sz):
  @real G (Frz.of w) [] (.lst x n cs)=some x:=by
 have slc:∀{b off len:Nat} {ex:Bool} {c z:Nat} {k:Blk},st[b]?=some k→(∃own ds,k=.ro own ds)∨(∃ds t s,k=.row ds t s)→Nat.ble (off+len*sz) k.cs.length=true→((k.cs.drop off).take (len*sz)).all leafV=true→
   @real G Φ m (.slice b off len ex c z)=some x→@real G (Frz.of w) [] (.lst x len ((k.cs.drop off).take (len*sz)))=some x:=by
  intro b off len ex c z k hb hk hle hlf hx;have hle:=Nat.le_of_ble_eq_true hle;obtain⟨e,cap,he,hcap,hlc,rfl⟩:=@real_slice G Φ m _ _ _ _ _ _ _ hx;have hbc:blkCells st b off (len*sz)=some ((k.cs.drop off).take (len*sz)):=by simp only[blkCells,hb];rw[if_pos hle]
  obtain⟨e',xs,he',hxs,hlen,hc⟩:=@blkCells_ok G Φ m B W0 w st hr _ _ _ _ hbc;rw[at_get he]at he';cases he';have h0:=real0L_more hr.more _ _ (leafL_real0 hlf hxs);refine @real_lst_mk G (Frz.of w) [] _ _ _ _ h0 ?_;by_cases hn:len=0
  ·subst hn;have:xs=[]:=List.eq_nil_of_length_eq_zero (by rw[hlen];simp);exact .inl ⟨_,_,rfl,rfl,this⟩
  ·have hc0:cap≠0:=by omega
   rw[if_neg hc0];have hlv:k.live=true:=by rcases hk with⟨_,_,rfl⟩|⟨_,_,_,rfl⟩<;>rfl
   have hbk:=hr.blk b k e hb (at_get he);obtain⟨arr,t,fz,hh⟩:∃arr t fz,w.heap[e.blk]?=some (.cells arr t fz):=by
    rcases hk with⟨_,_,rfl⟩|⟨_,_,_,rfl⟩
    ·obtain⟨_,arr,t,fz,h2,_⟩:=hbk;exact⟨arr,t,fz,h2⟩
    ·obtain⟨_,_,arr,xs,⟨fz,_,h3⟩,_⟩:=hbk;exact⟨arr,_,fz,h3⟩
   refine .inr ⟨e.blk,e.off+off,cap,arr,t,fz,rfl,by omega,hlc,hh,fun i y hi=>?_⟩;have:=hc i y hi;rw[addr_add,cell_of_row w e.blk _ arr t fz hh]at this;exact this
 cases v with
 |nilSlice=>
  simp only[viewC,Option.some.injEq,Prod.mk.injEq]at hv;obtain⟨_,rfl,rfl⟩:=hv;simp only[real,Option.some.injEq]at hx;subst hx;exact @real_lst_mk G (Frz.of w) [] _ _ _ _ rfl (.inl ⟨none,0,rfl,rfl,rfl⟩)
 |lst y k ds=>
  simp only[viewC,Option.some.injEq,Prod.mk.injEq]at hv;obtain⟨_,rfl,rfl⟩:=hv;obtain⟨xs,_,rfl,_⟩:=@real_lst G Φ m _ _ _ _ hx;have:=real_more hr.more _ _ hx;simpa only[real]using this
 |slice b off len ex c z=>
  simp only[viewC]at hv;split at hv
  ·rename_i ds t s hb;simp only[Option.some.injEq,Prod.mk.injEq]at hv;obtain⟨h1,rfl,rfl⟩:=hv;exact slc hb (.inr ⟨_,_,_,rfl⟩) h1 hl hx
  ·rename_i own ds hb;simp only[Option.some.injEq,Prod.mk.injEq]at hv;obtain⟨h1,rfl,rfl⟩:=hv;exact slc hb (.inl ⟨_,_,rfl⟩) h1 hl hx
  ·cases hv
 |nos b len=>
  have go:∀{k:Blk},st[b]?=some k→(∃own ds,k=.ro own ds)∨(∃ds t s,k=.row ds t s)→Nat.ble (len*sz) k.cs.length=true→(k.cs.take (len*sz)).all leafV=true→@real G (Frz.of w) [] (.lst x len (k.cs.take (len*sz)))=some x:=by
   intro k hb hk hle hlf;rcases real_nos hx with⟨rfl,rfl⟩|⟨e,he,h0,hc,rfl⟩
   ·rw[Nat.zero_mul,List.take_zero];exact @real_lst_mk G (Frz.of w) [] _ _ _ _ rfl (.inl ⟨none,0,rfl,rfl,rfl⟩)
   ·refine slc (off:=0) (ex:=false) (c:=0) (z:=0) hb hk (by rw[Nat.zero_add];exact hle) hlf ?_;simp only[real,he,Bool.false_eq_true,if_false,Nat.sub_zero,if_pos hc];simp
  simp only[viewC]at hv;split at hv
  ·rename_i ds t s hb;simp only[Option.some.injEq,Prod.mk.injEq]at hv;obtain⟨h1,rfl,rfl⟩:=hv;exact go hb (.inr ⟨_,_,_,rfl⟩) h1 hl
  ·rename_i own ds hb;simp only[Option.some.injEq,Prod.mk.injEq]at hv;obtain⟨h1,rfl,rfl⟩:=hv;exact go hb (.inl ⟨_,_,rfl⟩) h1 hl
  ·cases hv
 |_=>cases hv
def strs(l:List (List UInt8)):List V:=l.map .str
theorem strs_of:∀{cs:List V},cs.all isStrV=true→strs (cs.map strOfV)=cs
 |[],_=>rfl
 |v::r,h=>by
  simp only[List.all_cons,Bool.and_eq_true]at h;have:=strs_of h.2;cases v<;>first|(simp[isStrV]at h;done)|(simp only[strs,List.map_cons,strOfV]at this ⊢;rw[this])
theorem strs_isStr(l:List (List UInt8)):(strs l).all isStrV=true:=by
 induction l with
 |nil=>rfl
 |cons a r ih=>simp[strs,isStrV]
theorem strs_strOf(l:List (List UInt8)):(strs l).map strOfV=l:=by
 induction l with
 |nil=>rfl
 |cons a r ih=>simpa[strs,strOfV]using ih
theorem strs_len(l:List (List UInt8)):(strs l).length=l.length:=List.length_map ..
theorem isStr_leaf{cs:List V}(h:cs.all isStrV=true):cs.all leafV=true:=by
 rw[List.all_eq_true]at h ⊢;intro v hv;have:=h v hv;cases v<;>first|rfl|simp[isStrV]at this
theorem strs_flat(l:List (List UInt8)):flatL (strs l)=true:=by
 induction l with
 |nil=>rfl
 |cons a r ih=>simpa[strs,flatL,V.flat]using ih
theorem pickO_one{c:Bool}{a o:V×St}(h:pickO [(c,a)]=some o):c=true∧o=a:=by
 cases c with
 |false=>cases h
 |true=>simp only[pickO,cond_true,Option.some.injEq]at h;exact⟨rfl,h.symm⟩
def okS(n:Nat)(cs:List V):Bool:=cs.all isStrV&&(Nat.beq cs.length n&&Nat.ble n 9223372036854775807)
theorem okS_spec{n:Nat}{cs:List V}(h:okS n cs=true):∃l:List (List UInt8),cs=strs l∧n=l.length∧l.length≤9223372036854775807∧cs.map strOfV=l:=by
 unfold okS at h;simp only[Bool.and_eq_true]at h;have h2:=Nat.eq_of_beq_eq_true h.2.1;have h3:=Nat.le_of_ble_eq_true h.2.2;exact⟨cs.map strOfV,(strs_of h.1).symm,by rw[List.length_map,h2],by rw[List.length_map,h2];exact h3,rfl⟩
theorem okS_mk{l:List (List UInt8)}(h:l.length≤9223372036854775807):okS l.length (strs l)=true:=by
 unfold okS;simp only[Bool.and_eq_true];exact⟨strs_isStr l,by rw[strs_len];exact Nat.beq_refl _,Nat.ble_eq_true_of_le h⟩
theorem dropA_nil{α:Type}{s:List α}{i:Nat}(h:s.drop i=[])(hi:i≤s.length):i=s.length:=by
 have:=congrArg List.length h;simp at this;omega
theorem dropA_cons{α:Type}{s r:List α}{i:Nat}{c:α}(h:s.drop i=c::r):s[i]?=some c∧s.drop (i+1)=r∧i<s.length:=by
 have hl:i<s.length:=by
  have:=congrArg List.length h;simp at this;omega
 rw[List.drop_eq_getElem_cons hl]at h;injection h with h1 h2
 exact⟨by rw[List.getElem?_eq_getElem hl,h1],h2,hl⟩
theorem strs_at{l r:List (List UInt8)}{i:Nat}{c:List UInt8}(h:l.drop i=c::r):(strs l).getD (i*1) (.bool false)=.str c∧(i*1).blt (strs l).length=true:=by
 obtain⟨h1,_,h3⟩:=dropA_cons h;rw[Nat.mul_one,List.getD_eq_getElem?_getD];refine⟨?_,Nat.ble_eq_true_of_le (by rw[strs_len];exact h3)⟩;unfold strs;rw[List.getElem?_map,h1];rfl
def lstS(x:Value)(l:List (List UInt8)):V:=.lst x l.length (strs l)
def viewS(st:St)(v:V):Option (Bool×List (List UInt8)):=match viewC st 1 v with
 |some (b,(n,cs))=>some (b&&(cs.all isStrV&&Nat.beq cs.length n),cs.map strOfV)
 |none=>none
theorem viewS_ok{Φ:Frz}{B:Nat}{W0 w:World}{m:List MB}{st:St}(hr:@Rel G Φ B W0 m st w){v:V}{l:List (List UInt8)}{x:Value}(hv:viewS st v=some (true,l))(hx:@real G Φ m v=some x):
  @real G (Frz.of w) [] (lstS x l)=some x:=by
 unfold viewS at hv;split at hv
 ·rename_i b n cs hc;simp only[Option.some.injEq,Prod.mk.injEq,Bool.and_eq_true]at hv;obtain⟨⟨rfl,h1,h2⟩,rfl⟩:=hv;have:=viewC_ok hr hc (isStr_leaf h1) hx (by omega);unfold lstS;rw[strs_of h1,List.length_map,Nat.eq_of_beq_eq_true h2];exact this
 ·cases hv
end
section
variable [G:Glob] [Φ:Frz]
variable {P:Program} {ro:Option Nat} {k:Nat}
mutual
def namesV:V→List Nat
 |.ptr b _=>[b]
 |.slice b _ _ _ _ _=>[b]
 |.map b=>[b]
 |.nos b _=>[b]
 |.iface _ v=>namesV v
 |.func _ fs cs=>namesL fs++namesL cs
 |.agg cs=>namesL cs
 |.tuple cs=>namesL cs
 |_=>[]
def namesL:List V→List Nat
 |[]=>[]
 |v::r=>namesV v++namesL r
end
def memN(i:Nat):List Nat→Bool
 |[]=>false
 |j::r=>Nat.beq i j||memN i r
def visB(σ:List Nat):Nat→St→St
 |_,[]=>[]
 |i,b::r=>(bif memN i σ then b else .dead)::visB σ (i+1) r
def vis(v:V)(st:St):St:=visB (namesV v) 0 st
theorem visB_get(σ:List Nat):∀(st:St) (i j:Nat) (b:Blk),(visB σ i st)[j]?=some b→b=.dead∨st[j]?=some b
 |[],i,j,b,h=>by simp[visB]at h
 |c::r,i,0,b,h=>by
  simp only[visB,List.getElem?_cons_zero,Option.some.injEq]at h;cases hm:memN i σ with
  |true=>rw[hm,cond_true]at h;exact .inr (by simp[h])
  |false=>rw[hm,cond_false]at h;exact .inl h.symm
 |c::r,i,j+1,b,h=>by
  simp only[visB,List.getElem?_cons_succ]at h;rcases visB_get σ r (i+1) j b h with h|h
  ·exact .inl h
  ·exact .inr (by simpa using h)
theorem fits_vis{k:Nat}{vs:List V}{s st:St}{l:List (Option V)}{u:V}(h:Fits k vs s l (vis u st)):Fits k vs s l st:=by
 obtain⟨σ,us,h1,h2,h3,h4,h5⟩:=h;refine⟨σ,us,h1,h2,⟨h3.1,fun i c b hi hb hd=>?_⟩,h4,h5⟩;obtain⟨b',g1,g2⟩:=h3.2 i c b hi hb hd;refine⟨b',g1,?_⟩;rcases visB_get _ _ _ _ _ g2 with rfl|g
 ·exfalso;rcases g1 with g1|⟨_,_,_,_,_,_,_,_,_,_,_,g1,_⟩
  ·cases b<;>simp only[renB]at g1<;>first|(exact hd rfl)|(split at g1<;>cases g1)|cases g1
  ·cases g1
 ·exact g
theorem visM_ok{T:Tab}{lim n:Nat}(hm:P.follows .mixedOrders=true)(hT:TabOk3 P T){g:FuncId}{args:List V}{v:V}{s:St}(h:runM P T lim n g args (fun u st=>Fits 0 [v] s [some u] (vis u st))):FnSat P g args [] (Is (v,s)):=
 FnSat.fits ((runM_ok hm hT h).mono fun u st hq=>fits_vis hq)
end
end Go.Vm
namespace Go.Vm
set_option linter.unusedSectionVars false
set_option linter.unusedVariables false
open Go.RowKit
inductive DD where
 |int (k:IntKind) (n:Int)
 |str (l:List UInt8)
 |bool (b:Bool)
 |lst (x:Value) (l:List DD)
 |agg (l:List DD)
mutual
def cellsD:DD→List V
 |.int k n=>[.int k n]
 |.str l=>[.str l]
 |.bool b=>[.bool b]
 |.lst x l=>[.lst x l.length (cellsDs l)]
 |.agg l=>cellsDs l
def cellsDs:List DD→List V
 |[]=>[]
 |d::r=>cellsD d++cellsDs r
end
theorem cellsDs_append:∀(a b:List DD),cellsDs (a++b)=cellsDs a++cellsDs b
 |[],b=>rfl
 |d::r,b=>by simp only[List.cons_append,cellsDs,cellsDs_append r b,List.append_assoc]
inductive Sh where
 |int (k:IntKind)
 |str
 |bool
 |lst (e:Sh)
 |agg (fs:List Sh)
def shOkL(P:Program)(chk:Sh→TypeId→Bool):List Sh→List Field→Nat→Nat→Bool
 |[],[],off,tot=>Nat.beq off tot
 |s::r,g::gs,off,tot=>Nat.beq g.offset off&&(chk s g.type&&shOkL P chk r gs (off+P.cellsOf g.type) tot)
 |_,_,_,_=>false
def shOk(P:Program):Nat→Sh→TypeId→Bool
 |0,_,_=>false
 |f+1,s,t=>match s,P.underlying t with
  |.int k,some (.int k')=>decide (k'=k)&&Nat.beq (P.cellsOf t) 1
  |.str,some .string=>Nat.beq (P.cellsOf t) 1
  |.bool,some .bool=>Nat.beq (P.cellsOf t) 1
  |.lst e,some (.slice te)=>Nat.beq (P.cellsOf t) 1&&(Nat.blt 0 (P.cellsOf te)&&shOk P f e te)
  |.agg ss,some (.struct fs)=>shOkL P (shOk P f) ss fs.toList 0 (P.cellsOf t)
  |_,_=>false
def All2{α β:Type}(R:α→β→Prop):List α→List β→Prop
 |[],[]=>True
 |a::r,b::s=>R a b∧All2 R r s
 |_,_=>False
theorem all2_cons{α β:Type}{R:α→β→Prop}{a:α}{r:List α}{l:List β}(h:All2 R (a::r) l):∃b s,l=b::s∧R a b∧All2 R r s:=by
 cases l with
 |nil=>exact h.elim
 |cons b s=>exact⟨b,s,rfl,h.1,h.2⟩
theorem all2_nil{α β:Type}{R:α→β→Prop}{l:List β}(h:All2 R [] l):l=[]:=by
 cases l with
 |nil=>rfl
 |cons b s=>exact h.elim
def OfSh:Nat→Sh→DD→Prop
 |0,_,_=>False
 |f+1,s,d=>match s with
  |.int k=>∃n,d=.int k n∧(Lit.int k n).wf=true
  |.str=>∃l,d=.str l∧l.length≤maxLen
  |.bool=>∃b,d=.bool b
  |.lst e=>∃x l,d=.lst x l∧l.length≤maxLen∧∀y∈l,OfSh f e y
  |.agg ss=>∃l,d=.agg l∧All2 (OfSh f) ss l
section
variable [G:Glob]
theorem real0L_append{Φ:Frz}:∀{l l':List V} {x x':List Value},@real0L Φ l=some x→@real0L Φ l'=some x'→@real0L Φ (l++l')=some (x++x')
 |[],l',x,x',h,h'=>by simp only[real0L,Option.some.injEq]at h;subst h;simpa using h'
 |v::r,l',x,x',h,h'=>by
  simp only[real0L]at h;cases h1:@real0 Φ v with
  |none=>simp[h1]at h
  |some a=>
   cases h2:@real0L Φ r with
   |none=>simp[h1,h2]at h
   |some b=>
    simp only[h1,h2,Option.some.injEq]at h;subst h;simp only[List.cons_append,real0L,h1,real0L_append h2 h']
theorem real0L_one{Φ:Frz}{v:V}{x:Value}(h:@real0 Φ v=some x):@real0L Φ [v]=some [x]:=by simp only[real0L,h]
variable {H:Type} {enc:TypeId×Value→H} {P:Program} {W:World} {base:Nat} {spare:Nat→Bool} {held:Bool}
theorem ofStr{f:Nat}{d:DD}(h:OfSh (f+1) .str d):∃l,d=.str l∧l.length≤maxLen:=h
theorem ofInt{f:Nat}{k:IntKind}{d:DD}(h:OfSh (f+1) (.int k) d):∃n,d=.int k n∧(Lit.int k n).wf=true:=h
theorem ofBool{f:Nat}{d:DD}(h:OfSh (f+1) .bool d):∃b,d=.bool b:=h
theorem ofLst{f:Nat}{e:Sh}{d:DD}(h:OfSh (f+1) (.lst e) d):∃x l,d=.lst x l∧l.length≤maxLen∧∀y∈l,OfSh f e y:=h
theorem ofAgg{f:Nat}{ss:List Sh}{d:DD}(h:OfSh (f+1) (.agg ss) d):∃l,d=.agg l∧All2 (OfSh f) ss l:=h
theorem strsD:∀(f:Nat) (l:List DD),(∀y∈l,OfSh (f+1) .str y)→∃ls:List (List UInt8),l=ls.map DD.str∧cellsDs l=strs ls
 |f,[],_=>⟨[],rfl,rfl⟩
 |f,d::r,h=>by
  obtain⟨s,hs⟩:=ofStr (h d (by simp));obtain⟨ls,h1,h2⟩:=strsD f r (fun y hy=>h y (by simp[hy]));have hd:=hs.1;subst hd;exact⟨s::ls,by rw[h1];rfl,by simp only[cellsDs,cellsD,h2];rfl⟩
theorem real_agg_mk{Φ:Frz}{m:List MB}{l:List V}{xs:List Value}(h:@realL G Φ m l=some xs):@real G Φ m (.agg l)=some (.agg xs.toArray):=by simp only[real,h]
theorem open_sh:∀(f:Nat) (s:Sh) (t:TypeId) (n:Nat) (cs:List Value) (x:DataW H×List MemPlace),shOk P f s t=true→DataW.trod enc P W base spare held n t cs=some x→
  ∃d,OfSh f s d∧@real0L (Frz.of W) (cellsD d)=some cs
 |0,s,t,n,cs,x,h,_=>by simp[shOk]at h
 |f+1,s,t,n,cs,x,h,ht=>by
  simp only[shOk]at h;split at h
  ·rename_i k k' hu;rw[Bool.and_eq_true]at h;have hk:=of_decide_eq_true h.1;subst hk;obtain⟨m,rfl,_,hw⟩:=DataW.trod_int hu ht;exact⟨.int k' m,⟨m,rfl,hw⟩,rfl⟩
  ·rename_i hu;obtain⟨b,rfl,_,hw⟩:=DataW.trod_string hu ht;refine⟨.str b.data.toList,⟨_,rfl,by simpa using hw⟩,?_⟩;simp[cellsD,real0L,real0]
  ·rename_i hu;obtain⟨b,rfl,_⟩:=DataW.trod_bool hu ht;exact⟨.bool b,⟨b,rfl⟩,rfl⟩
  ·rename_i e te hu;simp only[Bool.and_eq_true]at h;obtain⟨_,hpos,hsh⟩:=h;have hpos:0<P.cellsOf te:=Nat.le_of_ble_eq_true hpos;rcases DataW.trod_slice hu ht with⟨rfl,_⟩|⟨a,len,cap,elems,rest,m,_,rfl,_,hb,hl,hm,hlen,hel,_,_⟩
   ·refine⟨.lst (.slice none 0 0) [],⟨_,[],rfl,by simp,by simp⟩,?_⟩;simp only[cellsD,cellsDs,List.length_nil];refine real0L_one ?_;simp only[real0,real0L];exact @lstV_mk G (Frz.of W) _ _ _ (.inl ⟨none,0,rfl,rfl,rfl⟩)
   ·have each:∀i,i<len→∃cs',W.cells? base (a.add (i*P.cellsOf te)) (P.cellsOf te)=some cs'∧∃y,DataW.trod enc P W base spare held m te cs'=some y:=by
     intro i hi;have:=hel i hi;rw[List.getElem?_eq_getElem (by omega)]at this;obtain⟨cs',h1,h2⟩:=Option.bind_eq_some_iff.1 this;exact⟨cs',h1,_,h2⟩
    have key:∀k,k≤len→∃(l:List DD) (xs:List Value),l.length=k∧(∀y∈l,OfSh f e y)∧@real0L (Frz.of W) (cellsDs l)=some xs∧xs.length=k*P.cellsOf te∧∀j y,xs[j]?=some y→W.cell? (a.add j)=some y:=by
     intro k
     induction k with
     |zero=>intro _;exact⟨[],[],rfl,by simp,rfl,by simp,by simp⟩
     |succ k ih=>
      intro hk;obtain⟨l,xs,q1,q2,q3,q4,q5⟩:=ih (by omega);obtain⟨cs',c1,y,c2⟩:=each k (by omega);obtain⟨d,d1,d2⟩:=open_sh f e te m cs' y hsh c2;obtain⟨_,c3,c4⟩:=World.cells?_some c1;refine⟨l++[d],xs++cs',by simp[q1],?_,?_,?_,?_⟩
      ·intro z hz;rcases List.mem_append.1 hz with hz|hz
       ·exact q2 z hz
       ·rw[List.mem_singleton.1 hz];exact d1
      ·rw[cellsDs_append];refine real0L_append q3 ?_;simp only[cellsDs,List.append_nil];exact d2
      ·rw[List.length_append,q4,c3,Nat.add_mul,Nat.one_mul]
      ·intro j z hz;by_cases hj:j<xs.length
       ·rw[List.getElem?_append_left hj]at hz;exact q5 j z hz
       ·rw[List.getElem?_append_right (by omega)]at hz;have hj2:j-xs.length<P.cellsOf te:=by rw[←c3];exact(List.getElem?_eq_some_iff.1 hz).1
        have:=c4 (j-xs.length) hj2;rw[hz]at this;have ha:(a.add (k*P.cellsOf te)).add (j-xs.length)=a.add j:=by
         rw[Addr.add_add];congr 1;omega
        rw[ha]at this;exact this
    obtain⟨l,xs,q1,q2,q3,q4,q5⟩:=key len (Nat.le_refl _);refine⟨.lst (.slice (some a) len cap) l,⟨_,l,rfl,by omega,q2⟩,?_⟩;simp only[cellsD];refine real0L_one ?_;simp only[real0,q3];rw[q1];refine @lstV_mk G (Frz.of W) _ _ _ ?_;by_cases h0:len=0
    ·subst h0;have:xs=[]:=List.eq_nil_of_length_eq_zero (by rw[q4];simp);exact .inl ⟨some a,cap,rfl,rfl,this⟩
    ·have hx0:0<xs.length:=by rw[q4];exact Nat.mul_pos (by omega) hpos
     have c0:=q5 0 xs[0] (List.getElem?_eq_getElem hx0);have ha0:a.add 0=a:=by simp[Addr.add]
     rw[ha0]at c0;obtain⟨blk,off,spot⟩:=a;have hspot:spot=none∧∃arr t fz,W.heap[blk]?=some (.cells arr t fz):=by
      unfold World.cell? at c0;split at c0
      ·rename_i c t fz hh;cases spot with
       |none=>exact⟨rfl,c,_,_,hh⟩
       |some _=>simp at c0
      ·cases c0
     obtain⟨rfl,arr,t,fz,hh⟩:=hspot;refine .inr ⟨blk,off,cap,arr,t,fz,rfl,by omega,hl,hh,fun j y hj=>?_⟩;have:=q5 j y hj;rw[@addr_add G (Frz.of W),cell_of_row W blk _ arr t fz hh]at this;exact this
  ·rename_i ss fs hu;obtain⟨xs,m,_,_,hcl,hxl,hf⟩:=DataW.trod_struct hu ht;have key:∀(ss:List Sh) (gs:List Field) (off:Nat),shOkL P (shOk P f) ss gs off (P.cellsOf t)=true→off≤cs.length→(∀g∈gs,∃y,DataW.trod enc P W base spare held m g.type ((cs.drop g.offset).take (P.cellsOf g.type))=some y)→
     ∃l,All2 (OfSh f) ss l∧@real0L (Frz.of W) (cellsDs l)=some (cs.drop off):=by
    intro ss
    induction ss with
    |nil=>
     intro gs off h1 _ _;cases gs with
     |nil=>
      simp only[shOkL]at h1;have:=Nat.eq_of_beq_eq_true h1;exact⟨[],trivial,by rw[List.drop_eq_nil_of_le (by omega)];rfl⟩
     |cons=>simp[shOkL]at h1
    |cons s r ih=>
     intro gs off h1 ho h2;cases gs with
     |nil=>simp[shOkL]at h1
     |cons g gs=>
      simp only[shOkL,Bool.and_eq_true]at h1;obtain⟨h3,h4,h5⟩:=h1;have h3:=Nat.eq_of_beq_eq_true h3;obtain⟨y,hy⟩:=h2 g (by simp);obtain⟨d,d1,d2⟩:=open_sh f s g.type m _ y h4 hy;have hle:off+P.cellsOf g.type≤cs.length:=by
       rw[hcl];have bound:∀(ss:List Sh) (gs:List Field) (o:Nat),shOkL P (shOk P f) ss gs o (P.cellsOf t)=true→o≤P.cellsOf t:=by
        intro ss
        induction ss with
        |nil=>
         intro gs o h;cases gs with
         |nil=>simp only[shOkL]at h;have:=Nat.eq_of_beq_eq_true h;omega
         |cons=>simp[shOkL]at h
        |cons s r ih=>
         intro gs o h;cases gs with
         |nil=>simp[shOkL]at h
         |cons g gs=>
          simp only[shOkL,Bool.and_eq_true]at h;have:=ih gs _ h.2.2;omega
       exact bound r gs _ h5
      obtain⟨l,l1,l2⟩:=ih gs (off+P.cellsOf g.type) h5 hle (fun z hz=>h2 z (by simp[hz]));refine⟨d::l,⟨d1,l1⟩,?_⟩;have:=real0L_append d2 l2;simp only[cellsDs];rw[this,h3];congr 1;rw[←List.drop_drop,List.take_append_drop]
   obtain⟨l,l1,l2⟩:=key ss fs.toList 0 h (Nat.zero_le _) (fun g hg=>by
    obtain⟨i,hi⟩:=List.mem_iff_getElem?.1 hg;have hlt:=(List.getElem?_eq_some_iff.1 hi).1;have:=hf i g (by simpa using hi);rw[List.getElem?_eq_getElem (by rw[hxl];simpa using hlt)]at this;exact⟨_,this⟩)
   refine⟨.agg l,⟨l,rfl,l1⟩,?_⟩;simpa[cellsD]using l2
  ·cases h
end
end Go.Vm
namespace Go.Vm
set_option linter.unusedSectionVars false
set_option linter.unusedVariables false
open Go.RowKit
structure TL where
 u:Int
 s:Int
 m:Int
 d:List UInt8
 deriving DecidableEq
def TL.cells(r:TL):List V:=[.int .u8 r.u,.int .u8 r.s,.int .u8 r.m,.str r.d]
def tlD:List V→List TL
 |a::b::c::d::r=>⟨intOfV a,intOfV b,intOfV c,strOfV d⟩::tlD r
 |_=>[]
def isTl:List V→Bool
 |[]=>true
 |a::b::c::d::r=>isIntV .u8 a&&(isIntV .u8 b&&(isIntV .u8 c&&(isStrV d&&isTl r)))
 |_=>false
def okT(n:Nat)(cs:List V):Bool:=isTl cs&&(Nat.beq (tlD cs).length n&&Nat.ble n 9223372036854775807)
section
variable [G:Glob]
end
end Go.Vm
namespace Go.Vm
set_option linter.unusedSectionVars false
set_option linter.unusedVariables false
open Go.RowKit
variable [G:Glob]
end Go.Vm
namespace Go.Vm
set_option linter.unusedSectionVars false
set_option linter.unusedVariables false
open Go.RowKit
structure CR where
 k:List UInt8
 g:List UInt8
 l:List (List UInt8)
 f:Int
 u:Int
 ca:Bool
 deriving DecidableEq
structure CX where
 c:CR
 x:Value
def CX.cells(y:CX):List V:=[.str y.c.k,.str y.c.g,lstS y.x y.c.l,.int .i64 y.c.f,.int .i64 y.c.u,.bool y.c.ca]
section
variable [G:Glob]
structure CrAt (cs:List V) (i:Nat) (c:CR):Prop where
 k:cs.getD (i*6+0) (.bool false)=.str c.k
 g:cs.getD (i*6+1) (.bool false)=.str c.g
 l:∃x,cs.getD (i*6+2) (.bool false)=.lst x c.l.length (strs c.l)
 ln:c.l.length≤9223372036854775807
 f:cs.getD (i*6+3) (.bool false)=.int .i64 c.f
 u:cs.getD (i*6+4) (.bool false)=.int .i64 c.u
 ca:cs.getD (i*6+5) (.bool false)=.bool c.ca
 len:(i+1)*6≤cs.length
end
end Go.Vm
namespace Go.Vm
set_option linter.unusedSectionVars false
set_option linter.unusedVariables false
open Go.RowKit
section
variable [G:Glob]
mutual
theorem shift_plainV(k:Nat):∀v:V,v.plain=true→v.shift k=v
 |.bool _,_|.int _ _,_|.str _,_|.nilPtr,_|.nilSlice,_|.nilFunc,_|.nilIface,_|.nilMap,_|.gp _ _,_=>rfl
 |.ptr b off,hf=>by cases hf
 |.slice b off len ex c z,hf=>by cases hf
 |.func fn fs cs,hf=>by
  simp only[V.plain,Bool.and_eq_true]at hf;simp only[V.shift,shift_plainL k fs hf.1,shift_plainL k cs hf.2]
 |.yield l,hf=>by cases hf
 |.iface t v,hf=>by
  simp only[V.plain]at hf;simp only[V.shift,shift_plainV k v hf]
 |.map b,hf=>by cases hf
 |.agg cs,hf=>by
  simp only[V.plain]at hf;simp only[V.shift,shift_plainL k cs hf]
 |.tuple cs,hf=>by
  simp only[V.plain]at hf;simp only[V.shift,shift_plainL k cs hf]
 |.lst x n cs,hf=>by cases hf
 |.nos b n,hf=>by cases hf
 |.lptr x n cs o,hf=>by cases hf
theorem shift_plainL(k:Nat):∀l:List V,plainL l=true→shiftL k l=l
 |[],_=>rfl
 |v::r,hf=>by
  simp only[plainL,Bool.and_eq_true]at hf;simp only[shiftL,shift_plainV k v hf.1,shift_plainL k r hf.2]
end
end
end Go.Vm
