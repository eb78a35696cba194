/- Parts of this work: what the functions come to. -/
import Derived.Test.YtmcdajbfomngcaaDoorP2
import Derived.Test.YtmcdajbfomngcaaDoorP1
import Derived.Test.YtmcdajbfomngcaaDoorWorks06
import Derived.Test.YtmcdajbfomngcaaDoorVmc
import Derived.Test.YtmcdajbfomngcaaDoorRows
import Derived.WalkKit
import Derived.ProofKit
import Derived.OpenShut
import Derived.ShutString
import Derived.SizedLaws
import Derived.LaidMore
import Derived.Stop.Joined
import Derived.LaidHandle
namespace Go.Proofs.YtmcdajbfomngcaaDoor
open Go Go.Vm Go.RowKit
set_option linter.unusedVariables false
set_option maxRecDepth 100000
set_option linter.unusedSectionVars false
variable [Φ:Frz]
theorem ct_round(a:Int)(x:Value)(n:Nat)(cs:List V)(h:List UInt8)(cc ow ls ws:List V)(o1 o2:Nat)(r:Int)(k:Nat)(i:Int)(R:Exit→List (Option V)→St→Prop):roundW Tryd.prog T3 9 10 (rounds 9) 5 128158 [0,1,2,7,8,9,10,11,12,13] [.int .i64 a,.lst x n cs,.str h,.ptr 0 0,.bool false,.slice 1 o1 o2 false 0 0,.int .i64 r,.slice 2 0 k false 0 0,.slice 3 0 k false 0 0,.int .i64 i] [.row cc 34 7,.row ow 9 1,.row ls 9 1,.row ws 9 1] R=
  (
 bif decide (i<(↑k:Int))then bif decide (0≤i)&&decide (i<(↑k:Int))then bif (0+i.toNat*1).blt ls.length then bif isStrV (ls.getD (0+i.toNat*1) (V.bool
 false))then bif decide (0≤i)&&decide (i<(↑k:Int))then bif (0+i.toNat*1).blt ws.length then bif isStrV (ws.getD (0+i.toNat*1) (V.bool false))then bif
 !strOfV (ls.getD (0+i.toNat*1) (V.bool false))==strOfV (ws.getD (0+i.toNat*1) (V.bool false))then R Exit.ret [some (V.int IntKind.i64 a),some (V.lst x n cs),
 some (V.str h),some (V.ptr 0 0),some (V.bool false),some (V.slice 1 o1 o2 false 0 0),some (V.int IntKind.i64 r),some (V.slice 2 0 k false 0 0),some (V.slice 3 0 k
 false 0 0),some (V.int IntKind.i64 i)] [Blk.row cc 34 7,Blk.row ow 9 1,Blk.row ls 9 1,Blk.row ws 9 1]else bif decide (0≤i)&&decide (i<(↑k:Int))then bif true
 &&(0+i.toNat*1+1).ble ls.length then R Exit.normal [some (V.int IntKind.i64 a),some (V.lst x n cs),some (V.str h),some (V.ptr 0 0),some (V.bool false),some
 (V.slice 1 o1 o2 false 0 0),some (V.int IntKind.i64 r),some (V.slice 2 0 k false 0 0),some (V.slice 3 0 k false 0 0),some (V.int IntKind.i64 (IntKind.i64.wrap (i+
 1)))] [Blk.row cc 34 7,Blk.row ow 9 1,Blk.row (putAt (0+i.toNat*1) [V.str [115,112,111,105,108,116]] ls) 9 1,Blk.row ws 9 1]else False else False else False
 else False else False else False else False else False else R (Exit.exit 2) [some (V.int IntKind.i64 a),some (V.lst x n cs),some (V.str h),some (V.ptr 0 0),some
 (V.bool false),some (V.slice 1 o1 o2 false 0 0),some (V.int IntKind.i64 r),some (V.slice 2 0 k false 0 0),some (V.slice 3 0 k false 0 0),some (V.int IntKind.i64 i)]
 [Blk.row cc 34 7,Blk.row ow 9 1,Blk.row ls 9 1,Blk.row ws 9 1]):=by kernel_rfl
theorem ct_last(a:Int)(x:Value)(n:Nat)(cs:List V)(h:List UInt8)(ow:List V)(k:Nat)(i:Int)(R:Exit→List (Option V)→St→Prop):roundW Tryd.prog T3 9 10 (rounds 9) 5 506 [1,8,9,14] [.lst x n cs,.bool false,.slice 0 0 k false 0 0,.int .i64 i] [.row ow 9 1] R=
  (
 bif decide (i<(↑k:Int))then bif decide (0≤i)&&decide (i<(↑k:Int))then bif (0+i.toNat*1).blt ow.length then bif isStrV (ow.getD (0+i.toNat*1) (V.bool
 false))then bif decide (0≤i)&&decide (i<(↑n:Int))then bif (i.toNat*1).blt cs.length then bif isStrV (cs.getD (i.toNat*1) (V.bool false))then bif !strOfV
 (ow.getD (0+i.toNat*1) (V.bool false))==strOfV (cs.getD (i.toNat*1) (V.bool false))then R Exit.ret [some (V.lst x n cs),some (V.bool false),some (V.slice 0 0 k
 false 0 0),some (V.int IntKind.i64 i)] [Blk.row ow 9 1]else R Exit.normal [some (V.lst x n cs),some (V.bool false),some (V.slice 0 0 k false 0 0),some (V.int
 IntKind.i64 (IntKind.i64.wrap (i+1)))] [Blk.row ow 9 1]else False else False else False else False else False else False else R (Exit.exit 4) [some (V.lst x n cs),
 some (V.bool false),some (V.slice 0 0 k false 0 0),some (V.int IntKind.i64 i)] [Blk.row ow 9 1]):=by kernel_rfl
def oilW:List UInt8:=[115,112,111,105,108,116]
def oilF(ds:List V)(i:Nat):List V:=List.replicate i (.str oilW)++ds.drop i
structure CI where
 a:Int
 x:Value
 n:Nat
 cs:List V
 h:List UInt8
 cc:List V
 ow:List V
 k1:Nat
 r:Int
 ds:List V
 k:Nat
 i:Nat
def ciV(z:CI):List V:=[.int .i64 z.a,.lst z.x z.n z.cs,.str z.h,.ptr 0 0,.bool false,.slice 1 0 z.k1 false 0 0,.int .i64 z.r,.slice 2 0 z.k false 0 0,.slice 3 0 z.k false 0 0,.int .i64 (z.i:Int)]
def ciJ(z:CI):St:=[.row z.cc 34 7,.row z.ow 9 1,.row (oilF z.ds z.i) 9 1,.row z.ds 9 1]
def ciPre(z:CI):Bool:=okS z.k z.ds&&(flatL z.cc&&(flatL z.ow&&(Nat.ble z.i z.k&&Nat.ble z.k 100000)))
def ciMu(z:CI):Nat:=z.k-z.i
def ciDec:List (Option V)→St→Option CI
 |[some (.int .i64 a),some (.lst x n cs),some (.str h),some (.ptr c 0),some (.bool false),some (.slice b 0 k1 false 0 0),some (.int .i64 r),some (.slice _ 0 k false 0 0),some (.slice w 0 _ false 0 0),some (.int .i64 0)],st=>match st[c]?,st[b]?,st[w]? with
  |some (.row cc _ _),some (.row ow _ _),some (.row ds _ _)=>some ⟨a,x,n,cs,h,cc,ow,k1,r,ds,k,0⟩
  |_,_,_=>none
 |_,_=>none
def oilK(k:Nat):List V:=List.replicate k (.str oilW)
def ciOutG(a:Int)(x:Value)(n:Nat)(cs:List V)(h:List UInt8)(cc ow:List V)(k1:Nat)(r:Int)(ds ls:List V)(k:Nat)(K:Exit→List V→St→Prop):Prop:=
 K (.exit 2) [.int .i64 a,.lst x n cs,.str h,.ptr 0 0,.bool false,.slice 1 0 k1 false 0 0,.int .i64 r,.slice 2 0 k false 0 0,.slice 3 0 k false 0 0,.int .i64 (k:Int)] [.row cc 34 7,.row ow 9 1,.row ls 9 1,.row ds 9 1]
def ciOut:Asks CI:=fun z K=>ciOutG z.a z.x z.n z.cs z.h z.cc z.ow z.k1 z.r z.ds (oilK z.k) z.k K
theorem oil_flat(n:Nat):flatL (List.replicate n (V.str oilW))=true:=by
 induction n with
 |zero=>rfl
 |succ n ih=>rw[List.replicate_succ];show(true&&flatL _)=true;rw[ih];rfl
theorem flat_and:∀l e:List V,flatL l=true→flatL e=true→flatL (l++e)=true
 |[],_,_,h=>h
 |v::r,e,h1,h2=>by
  have h1:(v.flat&&flatL r)=true:=h1;rw[Bool.and_eq_true]at h1;show(v.flat&&flatL (r++e))=true;rw[h1.1,flat_and r e h1.2 h2];rfl
theorem ci_fits(a:Int)(x:Value)(n:Nat)(cs:List V)(h:List UInt8)(cc ow:List V)(k1:Nat)(r:Int)(ds ls:List V)(k:Nat)(i:Int)(f1:flatL cc=true)(f2:flatL ow=true)(f3:flatL ls=true)(f4:flatL ds=true)(c b l w:Nat)(st:St)(g1:st[c]?=some (.row cc 34 7))(g2:st[b]?=some (.row ow 9 1))(g3:st[l]?=some (.row ls 9 1))(g4:st[w]?=some (.row ds 9 1))(hn:[c,b,l,w].Nodup):
  Fits 0 [.int .i64 a,.lst x n cs,.str h,.ptr 0 0,.bool false,.slice 1 0 k1 false 0 0,.int .i64 r,.slice 2 0 k false 0 0,.slice 3 0 k false 0 0,.int .i64 i] [.row cc 34 7,.row ow 9 1,.row ls 9 1,.row ds 9 1] [some (.int .i64 a),some (.lst x n cs),some (.str h),some (.ptr c 0),some (.bool false),some (.slice b 0 k1 false 0 0),some (.int .i64 r),some (.slice l 0 k false 0 0),some (.slice w 0 k false 0 0),some (.int .i64 i)] st:=
 ⟨[c,b,l,w],[.int .i64 a,.lst x n cs,.str h,.ptr c 0,.bool false,.slice b 0 k1 false 0 0,.int .i64 r,.slice l 0 k false 0 0,.slice w 0 k false 0 0,.int .i64 i],rfl,rfl,FitsM.of ⟨fb f1 g1,fb f2 g2,fb f3 g3,fb f4 g4,trivial⟩,hn,fun i hi=>by omega⟩
theorem put_oil(ds:List V){c:V}{r:List V}{i:Nat}(hd:ds.drop i=c::r):putAt (0+i*1) [V.str oilW] (oilF ds i)=oilF ds (i+1):=by
 unfold oilF putAt;have h1:(List.replicate i (V.str oilW)).length=i:=List.length_replicate;have e2:ds.drop (i+1)=r:=by rw[←List.drop_drop,hd];rfl
 rw[hd,e2,show 0+i*1=i by omega];have e3:List.take i (List.replicate i (V.str oilW)++c::r)=List.replicate i (V.str oilW):=List.take_left' h1;have e4:List.drop (i+1) (List.replicate i (V.str oilW)++c::r)=r:=by
  have h:List.replicate i (V.str oilW)++c::r=(List.replicate i (V.str oilW)++[c])++r:=by rw[List.append_assoc];rfl
  rw[h];exact List.drop_left' (by rw[List.length_append,h1];rfl)
 rw[e3,List.length_singleton,e4,List.replicate_succ',List.append_assoc]
theorem ci_roundOk(z:CI)(hz:ciPre z=true):roundW Tryd.prog T3 9 10 (rounds 9) 5 128158 [0,1,2,7,8,9,10,11,12,13] (ciV z) (ciJ z) (RoundOkA 0 ciPre ciV ciJ ciMu ciOut z):=by
 obtain⟨a,x,n,cs,h,cc,ow,k1,r,ds,k,i⟩:=z;unfold ciPre at hz;simp only[Bool.and_eq_true]at hz;have hx1:okS k ds=true:=hz.1;have f1:flatL cc=true:=hz.2.1;have f2:flatL ow=true:=hz.2.2.1;have p1:i≤k:=Nat.le_of_ble_eq_true hz.2.2.2.1;have p2:k≤100000:=Nat.le_of_ble_eq_true hz.2.2.2.2;obtain⟨q,rfl,rfl,p3,p4⟩:=okS_spec hx1;have fd:∀j,flatL (oilF (strs q) j)=true:=fun j=>by
  unfold oilF;rw[show(strs q).drop j=strs (q.drop j) by unfold strs;rw[List.map_drop]];exact flat_and _ _ (oil_flat j) (strs_flat _)
 show roundW Tryd.prog T3 9 10 (rounds 9) 5 128158 [0,1,2,7,8,9,10,11,12,13] [.int .i64 a,.lst x n cs,.str h,.ptr 0 0,.bool false,.slice 1 0 k1 false 0 0,.int .i64 r,.slice 2 0 q.length false 0 0,.slice 3 0 q.length false 0 0,.int .i64 (i:Int)] [.row cc 34 7,.row ow 9 1,.row (oilF (strs q) i) 9 1,.row (strs q) 9 1] _;rw[ct_round];cases hd:q.drop i with
 |nil=>
  have hi:=dropA_nil hd p1;rw[decide_eq_false (show ¬((i:Int)<(q.length:Int)) by omega),cond_false];refine⟨_,_,fun K hK=>?_,ci_fits a x n cs h cc ow k1 r (strs q) (oilF (strs q) i) q.length i f1 f2 (fd i) (strs_flat q) 0 1 2 3 _ rfl rfl rfl rfl (by decide)⟩;have hK:ciOutG a x n cs h cc ow k1 r (strs q) (oilK q.length) q.length K:=hK;have e:oilF (strs q) i=oilK q.length:=by
   unfold oilF oilK;rw[hi,List.drop_of_length_le (by rw[strs_len];exact Nat.le_refl _),List.append_nil]
  rw[e,hi];exact hK
 |cons s t=>
  obtain⟨e1,e2,e3⟩:=dropA_cons hd;obtain⟨e4,e5⟩:=strs_at hd;have hds:(strs q).drop i=V.str s::strs t:=by unfold strs;rw[←List.map_drop,hd];rfl
  have q1:decide ((i:Int)<(q.length:Int))=true:=decide_eq_true (by omega);have q2:decide ((0:Int)≤(i:Int))=true:=decide_eq_true (by omega);have w1:IntKind.i64.wrap ((i:Int)+1)=((i+1:Nat):Int):=by rw[IntWalk.i64_in _ ⟨by omega,by omega⟩];omega
  have hr:(List.replicate i (V.str oilW)).length=i:=List.length_replicate;have l0:(oilF (strs q) i).length=q.length:=by
   unfold oilF;rw[List.length_append,hr,List.length_drop,strs_len];omega
  have l1:(0+i*1).blt (oilF (strs q) i).length=true:=by rw[l0];exact Nat.ble_eq_true_of_le (by omega)
  have l2:(0+i*1+1).ble (oilF (strs q) i).length=true:=by rw[l0];exact Nat.ble_eq_true_of_le (by omega)
  have l3:(0+i*1).blt (strs q).length=true:=by rw[strs_len];exact Nat.ble_eq_true_of_le (by omega)
  have g1:(oilF (strs q) i).getD (0+i*1) (V.bool false)=V.str s:=by
   unfold oilF;rw[hds,show 0+i*1=i by omega,List.getD_eq_getElem?_getD,List.getElem?_append_right (by omega),hr,Nat.sub_self];rfl
  have g2:(strs q).getD (0+i*1) (V.bool false)=V.str s:=by
   rw[show 0+i*1=i by omega,List.getD_eq_getElem?_getD];have:=congrArg (fun l=>l[0]?) hds;simp only[List.getElem?_drop,Nat.add_zero,List.getElem?_cons_zero]at this;rw[this];rfl
  simp only[q1,q2,Int.toNat_natCast,cond_true,Bool.and_self,w1,l1,l2,l3,g1,g2,isStrV,strOfV];have same:(s !=s)=false:=by simp
  refine bif_intro (fun hne=>?_) (fun _=>?_)
  ·have hne:(!(s==s))=true:=hne;rw[beq_self_eq_true]at hne;cases hne
  ·refine⟨⟨a,x,n,cs,h,cc,ow,k1,r,strs q,q.length,i+1⟩,?_,?_,by simp only[ciMu];omega,fun K hK=>hK⟩
   ·unfold ciPre;simp only[Bool.and_eq_true];exact⟨hx1,f1,f2,Nat.ble_eq_true_of_le (show i+1≤q.length by omega),hz.2.2.2.2⟩
   ·have e:=put_oil (strs q) hds;rw[show([115,112,111,105,108,116]:List UInt8)=oilW from rfl,e];exact ci_fits a x n cs h cc ow k1 r (strs q) (oilF (strs q) (i+1)) q.length _ f1 f2 (fd _) (strs_flat q) 0 1 2 3 _ rfl rfl rfl rfl (by decide)
structure CJ where
 x:Value
 cs:List V
 k:Nat
 i:Nat
def cjV(z:CJ):List V:=[.lst z.x z.k z.cs,.bool false,.slice 0 0 z.k false 0 0,.int .i64 (z.i:Int)]
def cjJ(z:CJ):St:=[.row z.cs 9 1]
def cjPre(z:CJ):Bool:=okS z.k z.cs&&(Nat.ble z.i z.k&&Nat.ble z.k 100000)
def cjMu(z:CJ):Nat:=z.k-z.i
def cjDec:List (Option V)→St→Option CJ
 |[some (.lst x n cs),some (.bool false),some (.slice _ 0 _ false 0 0),some (.int .i64 0)],_=>some ⟨x,cs,n,0⟩
 |_,_=>none
def cjOutG(x:Value)(cs:List V)(k:Nat)(K:Exit→List V→St→Prop):Prop:=
 K (.exit 4) [.lst x k cs,.bool false,.slice 0 0 k false 0 0,.int .i64 (k:Int)] [.row cs 9 1]
def cjOut:Asks CJ:=fun z K=>cjOutG z.x z.cs z.k K
theorem cj_fits(x:Value)(cs:List V)(k:Nat)(i:Int)(hf:flatL cs=true)(b:Nat)(st:St)(hb:st[b]?=some (.row cs 9 1)):Fits 0 [.lst x k cs,.bool false,.slice 0 0 k false 0 0,.int .i64 i] [.row cs 9 1] [some (.lst x k cs),some (.bool false),some (.slice b 0 k false 0 0),some (.int .i64 i)] st:=
 ⟨[b],[.lst x k cs,.bool false,.slice b 0 k false 0 0,.int .i64 i],rfl,rfl,FitsM.of ⟨fb hf hb,trivial⟩,by simp,fun i hi=>by omega⟩
theorem cj_roundOk(z:CJ)(hz:cjPre z=true):roundW Tryd.prog T3 9 10 (rounds 9) 5 506 [1,8,9,14] (cjV z) (cjJ z) (RoundOkA 0 cjPre cjV cjJ cjMu cjOut z):=by
 obtain⟨x,cs,k,i⟩:=z;unfold cjPre at hz;simp only[Bool.and_eq_true]at hz;have hx1:okS k cs=true:=hz.1;have p1:i≤k:=Nat.le_of_ble_eq_true hz.2.1;have p2:k≤100000:=Nat.le_of_ble_eq_true hz.2.2;obtain⟨q,rfl,rfl,p3,p4⟩:=okS_spec hx1;show roundW Tryd.prog T3 9 10 (rounds 9) 5 506 [1,8,9,14] [.lst x q.length (strs q),.bool false,.slice 0 0 q.length false 0 0,.int .i64 (i:Int)] [.row (strs q) 9 1] _;rw[ct_last 0 x q.length (strs q) []];cases hd:q.drop i with
 |nil=>
  have hi:=dropA_nil hd p1;rw[decide_eq_false (show ¬((i:Int)<(q.length:Int)) by omega),cond_false];refine⟨_,_,fun K hK=>?_,cj_fits x (strs q) q.length i (strs_flat q) 0 _ rfl⟩;have hK:cjOutG x (strs q) q.length K:=hK;rw[hi];exact hK
 |cons s t=>
  obtain⟨e1,e2,e3⟩:=dropA_cons hd;have hds:(strs q).drop i=V.str s::strs t:=by unfold strs;rw[←List.map_drop,hd];rfl
  have q1:decide ((i:Int)<(q.length:Int))=true:=decide_eq_true (by omega);have q2:decide ((0:Int)≤(i:Int))=true:=decide_eq_true (by omega);have w1:IntKind.i64.wrap ((i:Int)+1)=((i+1:Nat):Int):=by rw[IntWalk.i64_in _ ⟨by omega,by omega⟩];omega
  have n0:0+i*1=i:=by omega
  have n1:i*1=i:=by omega
  have l3:i.blt (strs q).length=true:=by rw[strs_len];exact Nat.ble_eq_true_of_le (by omega)
  have g2:(strs q).getD i (V.bool false)=V.str s:=by
   rw[List.getD_eq_getElem?_getD];have:=congrArg (fun l=>l[0]?) hds;simp only[List.getElem?_drop,Nat.add_zero,List.getElem?_cons_zero]at this;rw[this];rfl
  simp only[q1,q2,Int.toNat_natCast,cond_true,Bool.and_self,w1,n1,Nat.zero_add,l3,g2,isStrV,strOfV];refine bif_intro (fun hne=>?_) (fun _=>?_)
  ·have hne:(!(s==s))=true:=hne;rw[beq_self_eq_true]at hne;cases hne
  ·refine⟨⟨x,strs q,q.length,i+1⟩,?_,cj_fits x (strs q) q.length _ (strs_flat q) 0 _ rfl,by simp only[cjMu];omega,fun K hK=>hK⟩;unfold cjPre;simp only[Bool.and_eq_true];exact⟨hx1,Nat.ble_eq_true_of_le (show i+1≤q.length by omega),hz.2.2⟩
noncomputable def lkCE:Nat→Trans→Trans:=withLoop 128158 (loopA 0 (szOf Tryd.prog 5) [0,1,2,7,8,9,10,11,12,13] ciDec ciPre ciV ciJ ciOut) (withLoop 506 (loopA 0 (szOf Tryd.prog 5) [1,8,9,14] cjDec cjPre cjV cjJ cjOut) (rounds 9))
theorem lkCE_ok:FnLoopsW Tryd.prog 0 lkCE 5:=by
 unfold lkCE;refine fnLoopW (fnLoopW (fnRoundsW 9 0 5) (by kernel_rfl) fun f st Q h=>?_) (by kernel_rfl) fun f st Q h=>?_
 ·exact loopA_ok (P:=Tryd.prog) (T:=T3) (k:=0) (lim:=9) (n:=10) (g:=5) (p0:=506) (lk:=rounds 9) mixed T3_ok (roundsW 9 _ _) cjMu cj_roundOk h
 ·exact loopA_ok (P:=Tryd.prog) (T:=T3) (k:=0) (lim:=9) (n:=10) (g:=5) (p0:=128158) (lk:=rounds 9) mixed T3_ok (roundsW 9 _ _) ciMu ci_roundOk h
def rofTG(ROK:Nat→List V→Bool)(RV:Int→List V→CP):List V→Option (List (Bool×(V×St)))
 |[.agg [.int .i64 co,.str en,.lst x n cs]]=>some [(ROK n cs,(.agg (cpV (RV co cs)),[]))]
 |_=>none
def teTG(TN:List UInt8→CP→Nat)(TS:List UInt8→CP→List V):List V→St→Option (List (Bool×(V×St)))
 |[.str h,.agg [.bool a1,.bool a2,.bool a3,.bool a4,.bool a5,.bool a6,.int .i64 mo]],st=>some [(isI64 mo,(.slice st.length 0 (TN h ⟨a1,a2,a3,a4,a5,a6,mo⟩) false 0 0,st++[.row (TS h ⟨a1,a2,a3,a4,a5,a6,mo⟩) 9 1]))]
 |_,_=>none
def rOK(n:Nat)(cs:List V):Bool:=okS n cs&&(cs.map strOfV).all shortS
def rVal(co:Int)(cs:List V):CP:=ofC co (cs.map strOfV)
def txNV(h:List UInt8)(c:CP):Nat:=(h::capW c).length
def txSV(h:List UInt8)(c:CP):List V:=strs (h::capW c)
theorem strs_shift(k:Nat):∀q:List (List UInt8),shiftL k (strs q)=strs q
 |[]=>rfl
 |s::r=>by
  show V.str s::shiftL k (strs r)=V.str s::strs r;rw[strs_shift k r]
theorem te_ok{g:FuncId}(hg:∀(args:List V) (L:List (Bool×(V×St))) (o:V×St),textsT args=some L→pickO L=some o→FnSat Tryd.prog g args [] (Is o))(args:List V)(s:St)(L:List (Bool×(V×St)))(o:V×St)(h:teTG txNV txSV args s=some L)(ho:pickO L=some o):FnSat Tryd.prog g args s (Is o):=by
 unfold teTG at h;split at h
 ·rename_i h a1 a2 a3 a4 a5 a6 mo;cases h;obtain⟨hk,rfl⟩:=pickO_one ho;have hs:=hg [.str h,.agg [.bool a1,.bool a2,.bool a3,.bool a4,.bool a5,.bool a6,.int .i64 mo]] _ (.slice 0 0 (h::capW ⟨a1,a2,a3,a4,a5,a6,mo⟩).length false 0 0,[.row (strs (h::capW ⟨a1,a2,a3,a4,a5,a6,mo⟩)) 9 1]) rfl (by rw[hk];rfl);have hj:=FnSat.flat_join (st:=s) rfl hs;have e:(bif (V.slice 0 0 (h::capW ⟨a1,a2,a3,a4,a5,a6,mo⟩).length false 0 0).flat then(V.slice 0 0 (h::capW ⟨a1,a2,a3,a4,a5,a6,mo⟩).length false 0 0,s)else((V.slice 0 0 (h::capW ⟨a1,a2,a3,a4,a5,a6,mo⟩).length false 0 0).shift s.length,s++[Blk.row (strs (h::capW ⟨a1,a2,a3,a4,a5,a6,mo⟩)) 9 1].map (Blk.shift s.length)))=(V.slice s.length 0 (txNV h ⟨a1,a2,a3,a4,a5,a6,mo⟩) false 0 0,s++[Blk.row (txSV h ⟨a1,a2,a3,a4,a5,a6,mo⟩) 9 1]):=by
   rw[show(V.slice 0 0 (h::capW ⟨a1,a2,a3,a4,a5,a6,mo⟩).length false 0 0).flat=false from rfl,cond_false];have e1:(V.slice 0 0 (h::capW ⟨a1,a2,a3,a4,a5,a6,mo⟩).length false 0 0).shift s.length=V.slice s.length 0 (txNV h ⟨a1,a2,a3,a4,a5,a6,mo⟩) false 0 0:=by
    simp[V.shift,txNV]
   have e2:[Blk.row (strs (h::capW ⟨a1,a2,a3,a4,a5,a6,mo⟩)) 9 1].map (Blk.shift s.length)=[Blk.row (txSV h ⟨a1,a2,a3,a4,a5,a6,mo⟩) 9 1]:=by
    have:=strs_shift s.length (h::capW ⟨a1,a2,a3,a4,a5,a6,mo⟩);simp only[List.map_cons,List.map_nil,Blk.shift,txSV]
    first|rw[this]|simp only[this]
   rw[e1,e2]
  rw[e]at hj;exact hj
 ·cases h
noncomputable def CET(LOK LB:V→St→Bool)(OFK:V→St→Bool)(OFV:Int→V→St→CP)(ROK:Nat→List V→Bool)(RV:Int→List V→CP)(TN:List UInt8→CP→Nat)(TS:List UInt8→CP→List V):Tab:=⟨addT (addP noT 18 worksF) 23 (rofTG ROK RV),addS (addS (addS (addS noL 19 (loGV LOK LB)) 22 (ofGV OFK OFV)) 24 (teTG TN TS)) 25 (teTG TN TS),addLk (noLks 9) 5 0 lkCE⟩
theorem CET_ok:TabOk3 Tryd.prog (CET loOK loB ofOK ofV rOK rVal txNV txSV):=⟨addT_ok (addP_ok noT_ok worksF_ok) rof_ok,addS_ok (addS_ok (addS_ok (addS_ok noL_ok loG_ok) ofGV_ok) (te_ok texts_ok)) (te_ok rtexts_ok),addLk_ok (noLks_ok 9) lkCE_ok⟩
theorem ce_lawA(LOK LB:V→St→Bool)(OFK:V→St→Bool)(OFV:Int→V→St→CP)(ROK:Nat→List V→Bool)(RV:Int→List V→CP)(TN:List UInt8→CP→Nat)(TS:List UInt8→CP→List V)(a:Int)(x:Value)(h:List UInt8)(a1 a2 a3 a4 a5 a6:Bool)(mo:Int)(R:V→Prop):runW Tryd.prog (CET LOK LB OFK OFV ROK RV TN TS) 9 10 5 [.int .i64 a,.lst x 0 [],.str h,.agg [.bool a1,.bool a2,.bool a3,.bool a4,.bool a5,.bool a6,.int .i64 mo]] R=
  (
 bif LOK (V.lst x 0 []) []then bif LB (V.lst x 0 []) []then R (V.bool true)else bif decide ((↑h.length:Int)>5000)then R (V.bool true)else bif OFK (V.slice 1 0 0
 false 0 0) [Blk.row [V.bool a1,V.bool a2,V.bool a3,V.bool a4,V.bool a5,V.bool a6,V.int IntKind.i64 mo] 34 7,Blk.row [] 9 1]then bif ROK 0 []then bif (OFV a
 (V.slice 1 0 0 false 0 0) [Blk.row [V.bool a1,V.bool a2,V.bool a3,V.bool a4,V.bool a5,V.bool a6,V.int IntKind.i64 mo] 34 7,Blk.row [] 9 1]).st==(RV a []).st then
 bif (OFV a (V.slice 1 0 0 false 0 0) [Blk.row [V.bool a1,V.bool a2,V.bool a3,V.bool a4,V.bool a5,V.bool a6,V.int IntKind.i64 mo] 34 7,Blk.row [] 9 1]).pi==(RV a
 []).pi then bif (OFV a (V.slice 1 0 0 false 0 0) [Blk.row [V.bool a1,V.bool a2,V.bool a3,V.bool a4,V.bool a5,V.bool a6,V.int IntKind.i64 mo] 34 7,Blk.row [] 9
 1]).rq==(RV a []).rq then bif (OFV a (V.slice 1 0 0 false 0 0) [Blk.row [V.bool a1,V.bool a2,V.bool a3,V.bool a4,V.bool a5,V.bool a6,V.int IntKind.i64 mo] 34 7,
 Blk.row [] 9 1]).ds==(RV a []).ds then bif (OFV a (V.slice 1 0 0 false 0 0) [Blk.row [V.bool a1,V.bool a2,V.bool a3,V.bool a4,V.bool a5,V.bool a6,V.int
 IntKind.i64 mo] 34 7,Blk.row [] 9 1]).eb==(RV a []).eb then bif (OFV a (V.slice 1 0 0 false 0 0) [Blk.row [V.bool a1,V.bool a2,V.bool a3,V.bool a4,V.bool a5,
 V.bool a6,V.int IntKind.i64 mo] 34 7,Blk.row [] 9 1]).si==(RV a []).si then bif (OFV a (V.slice 1 0 0 false 0 0) [Blk.row [V.bool a1,V.bool a2,V.bool a3,V.bool a4,
 V.bool a5,V.bool a6,V.int IntKind.i64 mo] 34 7,Blk.row [] 9 1]).mo==(RV a []).mo then bif isI64 mo then bif isI64 mo then bif (↑(TN h {st:=a1,pi:=a2,rq:=a3,ds:=a4,eb:=a5,si:=a6,mo:=mo})
 :Int)!=(↑(TN h {st:=a1,pi:=a2,rq:=a3,ds:=a4,eb:=a5,si:=a6,mo:=mo}):Int)then R (V.bool false)else Fits 0 [V.int IntKind.i64 a,V.lst x 0 [],
 V.str h,V.ptr 0 0,V.bool false,V.slice 1 0 0 false 0 0,V.int IntKind.i64 0,V.slice 2 0 (TN h {st:=a1,pi:=a2,rq:=a3,ds:=a4,eb:=a5,si:=a6,mo:=mo})
 false 0 0,V.slice 3 0 (TN h {st:=a1,pi:=a2,rq:=a3,ds:=a4,eb:=a5,si:=a6,mo:=mo}) false 0 0,V.int IntKind.i64 0] [Blk.row [V.bool a1,V.bool a2,
 V.bool a3,V.bool a4,V.bool a5,V.bool a6,V.int IntKind.i64 mo] 34 7,Blk.row [] 9 1,Blk.row ([]++List.drop 0 (shiftL 3 (TS h {st:=a1,pi:=a2,rq:=a3,ds:=a4,eb:=a5,si:=a6,mo:=mo})))
 9 1,Blk.row (shiftL 3 (TS h {st:=a1,pi:=a2,rq:=a3,ds:=a4,eb:=a5,si:=a6,mo:=mo})) 9 1] [some (V.int IntKind.i64 a),some (V.lst x 0 []),some (V.str
 h),some (V.ptr 0 0),some (V.bool false),some (V.slice 1 0 0 false 0 0),some (V.int IntKind.i64 0),some (V.slice 2 0 (TN h {st:=a1,pi:=a2,rq:=a3,ds:=a4,eb:=a5,si:=a6,mo:=mo})
 false 0 0),some (V.slice 3 0 (TN h {st:=a1,pi:=a2,rq:=a3,ds:=a4,eb:=a5,si:=a6,mo:=mo}) false 0 0),some (V.int IntKind.i64 0)] [Blk.row [V.bool a1,
 V.bool a2,V.bool a3,V.bool a4,V.bool a5,V.bool a6,V.int IntKind.i64 mo] 34 7,Blk.row [] 9 1,Blk.row (shiftL 2 (TS h {st:=a1,pi:=a2,rq:=a3,ds:=a4,eb:=a5,si:=a6,mo:=mo}))
 9 1,Blk.row (shiftL 3 (TS h {st:=a1,pi:=a2,rq:=a3,ds:=a4,eb:=a5,si:=a6,mo:=mo})) 9 1]∧bif ciPre {a:=a,x:=x,n:=0,cs:=[],h:=h,cc:=[V.bool a1,V.bool a2,V.bool a3,V.bool a4,V.bool a5,V.bool a6,V.int IntKind.i64 mo],ow:=[],k1:=0,r:=0,ds:=shiftL 3 (TS h {st:=a1,pi:=a2,rq:=a3,ds:=a4,eb:=a5,si:=a6,mo:=mo}),k:=TN h {st:=a1,pi:=a2,rq:=a3,ds:=a4,eb:=a5,si:=a6,mo:=mo},i:=0}
 then bif isI64 mo then bif isI64 mo then bif (↑(TN h {st:=a1,pi:=a2,rq:=a3,ds:=a4,eb:=a5,si:=a6,mo:=mo}):Int)!=(↑(TN h {st:=a1,pi:=a2,rq:=a3,ds:=a4,eb:=a5,si:=a6,mo:=mo})
 :Int)then R (V.bool false)else Fits 0 [V.int IntKind.i64 a,V.lst x 0 [],V.str h,V.ptr 0 0,V.bool false,V.slice 1 0 0 false 0 0,V.int IntKind.i64 1,V.slice 2 0
 (TN h {st:=a1,pi:=a2,rq:=a3,ds:=a4,eb:=a5,si:=a6,mo:=mo}) false 0 0,V.slice 3 0 (TN h {st:=a1,pi:=a2,rq:=a3,ds:=a4,eb:=a5,si:=a6,mo:=mo})
 false 0 0,V.int IntKind.i64 0] [Blk.row [V.bool a1,V.bool a2,V.bool a3,V.bool a4,V.bool a5,V.bool a6,V.int IntKind.i64 mo] 34 7,Blk.row [] 9 1,Blk.row ([]++
 List.drop 0 (shiftL 5 (TS h {st:=a1,pi:=a2,rq:=a3,ds:=a4,eb:=a5,si:=a6,mo:=mo}))) 9 1,Blk.row (shiftL 5 (TS h {st:=a1,pi:=a2,rq:=a3,ds:=a4,eb:=a5,si:=a6,mo:=mo}))
 9 1] [some (V.int IntKind.i64 a),some (V.lst x 0 []),some (V.str h),some (V.ptr 0 0),some (V.bool false),some (V.slice 1 0 0 false 0 0),some (V.int IntKind.i64 1),
 some (V.slice 4 0 (TN h {st:=a1,pi:=a2,rq:=a3,ds:=a4,eb:=a5,si:=a6,mo:=mo}) false 0 0),some (V.slice 5 0 (TN h {st:=a1,pi:=a2,rq:=a3,ds:=a4,eb:=a5,si:=a6,mo:=mo})
 false 0 0),some (V.int IntKind.i64 0)] [Blk.row [V.bool a1,V.bool a2,V.bool a3,V.bool a4,V.bool a5,V.bool a6,V.int IntKind.i64 mo] 34 7,Blk.row [] 9 1,Blk.row
 (oilK (TN h {st:=a1,pi:=a2,rq:=a3,ds:=a4,eb:=a5,si:=a6,mo:=mo})) 9 1,Blk.row (shiftL 3 (TS h {st:=a1,pi:=a2,rq:=a3,ds:=a4,eb:=a5,si:=a6,mo:=mo}))
 9 1,Blk.row (shiftL 4 (TS h {st:=a1,pi:=a2,rq:=a3,ds:=a4,eb:=a5,si:=a6,mo:=mo})) 9 1,Blk.row (shiftL 5 (TS h {st:=a1,pi:=a2,rq:=a3,ds:=a4,eb:=a5,si:=a6,mo:=mo}))
 9 1]∧bif ciPre {a:=a,x:=x,n:=0,cs:=[],h:=h,cc:=[V.bool a1,V.bool a2,V.bool a3,V.bool a4,V.bool a5,V.bool a6,V.int IntKind.i64 mo],ow:=[],k1:=0,r:=1,ds:=shiftL 5 (TS h {st:=a1,pi:=a2,rq:=a3,ds:=a4,eb:=a5,si:=a6,mo:=mo}),k:=TN h {st:=a1,pi:=a2,rq:=a3,ds:=a4,eb:=a5,si:=a6,mo:=mo},i:=0}
 then Fits 0 [V.lst x 0 [],V.bool false,V.slice 0 0 0 false 0 0,V.int IntKind.i64 0] [Blk.row [] 9 1] [some (V.lst x 0 []),some (V.bool false),some (V.slice 1 0 0
 false 0 0),some (V.int IntKind.i64 0)] [Blk.row [V.bool a1,V.bool a2,V.bool a3,V.bool a4,V.bool a5,V.bool a6,V.int IntKind.i64 mo] 34 7,Blk.row [] 9 1,Blk.row
 (oilK (TN h {st:=a1,pi:=a2,rq:=a3,ds:=a4,eb:=a5,si:=a6,mo:=mo})) 9 1,Blk.row (shiftL 5 (TS h {st:=a1,pi:=a2,rq:=a3,ds:=a4,eb:=a5,si:=a6,mo:=mo}))
 9 1]∧R (V.bool true)else False else False else False else False else False else False else R (V.bool false)else R (V.bool false)else R (V.bool false)else R (V.bool
 false)else R (V.bool false)else R (V.bool false)else R (V.bool false)else False else False else False):=by kernel_rfl
theorem ce_lawB(LOK LB:V→St→Bool)(OFK:V→St→Bool)(OFV:Int→V→St→CP)(ROK:Nat→List V→Bool)(RV:Int→List V→CP)(TN:List UInt8→CP→Nat)(TS:List UInt8→CP→List V)(a:Int)(x:Value)(k:Nat)(cs:List V)(h:List UInt8)(a1 a2 a3 a4 a5 a6:Bool)(mo:Int)(R:V→Prop):runW Tryd.prog (CET LOK LB OFK OFV ROK RV TN TS) 9 10 5 [.int .i64 a,.lst x (k+1) cs,.str h,.agg [.bool a1,.bool a2,.bool a3,.bool a4,.bool a5,.bool a6,.int .i64 mo]] R=
  (
 bif LOK (V.lst x (k+1) cs) []then bif LB (V.lst x (k+1) cs) []then R (V.bool true)else bif decide ((↑h.length:Int)>5000)then R (V.bool true)else bif
 cs.length.beq ((k+1)*1)&&cs.all V.one then bif (0+(k+1)).ble 9223372036854775807&&((0+(k+1))*16).ble 140737488355328 then bif OFK (V.slice 2 0 (0+(k+
 1)) false 0 0) [Blk.row [V.bool a1,V.bool a2,V.bool a3,V.bool a4,V.bool a5,V.bool a6,V.int IntKind.i64 mo] 34 7,Blk.dead,Blk.row cs 9 1]then bif ROK (k+1) cs
 then bif (OFV a (V.slice 2 0 (0+(k+1)) false 0 0) [Blk.row [V.bool a1,V.bool a2,V.bool a3,V.bool a4,V.bool a5,V.bool a6,V.int IntKind.i64 mo] 34 7,Blk.dead,
 Blk.row cs 9 1]).st==(RV a cs).st then bif (OFV a (V.slice 2 0 (0+(k+1)) false 0 0) [Blk.row [V.bool a1,V.bool a2,V.bool a3,V.bool a4,V.bool a5,V.bool a6,
 V.int IntKind.i64 mo] 34 7,Blk.dead,Blk.row cs 9 1]).pi==(RV a cs).pi then bif (OFV a (V.slice 2 0 (0+(k+1)) false 0 0) [Blk.row [V.bool a1,V.bool a2,V.bool a3,
 V.bool a4,V.bool a5,V.bool a6,V.int IntKind.i64 mo] 34 7,Blk.dead,Blk.row cs 9 1]).rq==(RV a cs).rq then bif (OFV a (V.slice 2 0 (0+(k+1)) false 0 0) [Blk.row
 [V.bool a1,V.bool a2,V.bool a3,V.bool a4,V.bool a5,V.bool a6,V.int IntKind.i64 mo] 34 7,Blk.dead,Blk.row cs 9 1]).ds==(RV a cs).ds then bif (OFV a (V.slice 2 0
 (0+(k+1)) false 0 0) [Blk.row [V.bool a1,V.bool a2,V.bool a3,V.bool a4,V.bool a5,V.bool a6,V.int IntKind.i64 mo] 34 7,Blk.dead,Blk.row cs 9 1]).eb==(RV a
 cs).eb then bif (OFV a (V.slice 2 0 (0+(k+1)) false 0 0) [Blk.row [V.bool a1,V.bool a2,V.bool a3,V.bool a4,V.bool a5,V.bool a6,V.int IntKind.i64 mo] 34 7,
 Blk.dead,Blk.row cs 9 1]).si==(RV a cs).si then bif (OFV a (V.slice 2 0 (0+(k+1)) false 0 0) [Blk.row [V.bool a1,V.bool a2,V.bool a3,V.bool a4,V.bool a5,
 V.bool a6,V.int IntKind.i64 mo] 34 7,Blk.dead,Blk.row cs 9 1]).mo==(RV a cs).mo then bif isI64 mo then bif isI64 mo then bif (↑(TN h {st:=a1,pi:=a2,rq:=a3,ds:=a4,eb:=a5,si:=a6,mo:=mo})
 :Int)!=(↑(TN h {st:=a1,pi:=a2,rq:=a3,ds:=a4,eb:=a5,si:=a6,mo:=mo}):Int)then R (V.bool false)else Fits 0 [V.int IntKind.i64 a,V.lst x (k+1)
 cs,V.str h,V.ptr 0 0,V.bool false,V.slice 1 0 (0+(k+1)) false 0 0,V.int IntKind.i64 0,V.slice 2 0 (TN h {st:=a1,pi:=a2,rq:=a3,ds:=a4,eb:=a5,si:=a6,mo:=mo})
 false 0 0,V.slice 3 0 (TN h {st:=a1,pi:=a2,rq:=a3,ds:=a4,eb:=a5,si:=a6,mo:=mo}) false 0 0,V.int IntKind.i64 0] [Blk.row [V.bool a1,V.bool a2,
 V.bool a3,V.bool a4,V.bool a5,V.bool a6,V.int IntKind.i64 mo] 34 7,Blk.row cs 9 1,Blk.row ([]++List.drop 0 (shiftL 4 (TS h {st:=a1,pi:=a2,rq:=a3,ds:=a4,eb:=a5,si:=a6,mo:=mo})))
 9 1,Blk.row (shiftL 4 (TS h {st:=a1,pi:=a2,rq:=a3,ds:=a4,eb:=a5,si:=a6,mo:=mo})) 9 1] [some (V.int IntKind.i64 a),some (V.lst x (k+1) cs),some
 (V.str h),some (V.ptr 0 0),some (V.bool false),some (V.slice 2 0 (0+(k+1)) false 0 0),some (V.int IntKind.i64 0),some (V.slice 3 0 (TN h {st:=a1,pi:=a2,rq:=a3,ds:=a4,eb:=a5,si:=a6,mo:=mo})
 false 0 0),some (V.slice 4 0 (TN h {st:=a1,pi:=a2,rq:=a3,ds:=a4,eb:=a5,si:=a6,mo:=mo}) false 0 0),some (V.int IntKind.i64 0)] [Blk.row [V.bool a1,
 V.bool a2,V.bool a3,V.bool a4,V.bool a5,V.bool a6,V.int IntKind.i64 mo] 34 7,Blk.dead,Blk.row cs 9 1,Blk.row (shiftL 3 (TS h {st:=a1,pi:=a2,rq:=a3,ds:=a4,eb:=a5,si:=a6,mo:=mo}))
 9 1,Blk.row (shiftL 4 (TS h {st:=a1,pi:=a2,rq:=a3,ds:=a4,eb:=a5,si:=a6,mo:=mo})) 9 1]∧bif ciPre {a:=a,x:=x,n:=k+1,cs:=cs,h:=h,cc:=[V.bool a1,V.bool a2,V.bool a3,V.bool a4,V.bool a5,V.bool a6,V.int IntKind.i64 mo],ow:=cs,k1:=0+(k+1),r:=0,ds:=shiftL 4 (TS h {st:=a1,pi:=a2,rq:=a3,ds:=a4,eb:=a5,si:=a6,mo:=mo}),k:=TN h {st:=a1,pi:=a2,rq:=a3,ds:=a4,eb:=a5,si:=a6,mo:=mo},i:=0}
 then bif isI64 mo then bif isI64 mo then bif (↑(TN h {st:=a1,pi:=a2,rq:=a3,ds:=a4,eb:=a5,si:=a6,mo:=mo}):Int)!=(↑(TN h {st:=a1,pi:=a2,rq:=a3,ds:=a4,eb:=a5,si:=a6,mo:=mo})
 :Int)then R (V.bool false)else Fits 0 [V.int IntKind.i64 a,V.lst x (k+1) cs,V.str h,V.ptr 0 0,V.bool false,V.slice 1 0 (0+(k+1)) false 0 0,V.int
 IntKind.i64 1,V.slice 2 0 (TN h {st:=a1,pi:=a2,rq:=a3,ds:=a4,eb:=a5,si:=a6,mo:=mo}) false 0 0,V.slice 3 0 (TN h {st:=a1,pi:=a2,rq:=a3,ds:=a4,eb:=a5,si:=a6,mo:=mo})
 false 0 0,V.int IntKind.i64 0] [Blk.row [V.bool a1,V.bool a2,V.bool a3,V.bool a4,V.bool a5,V.bool a6,V.int IntKind.i64 mo] 34 7,Blk.row cs 9 1,Blk.row ([]++
 List.drop 0 (shiftL 5 (TS h {st:=a1,pi:=a2,rq:=a3,ds:=a4,eb:=a5,si:=a6,mo:=mo}))) 9 1,Blk.row (shiftL 5 (TS h {st:=a1,pi:=a2,rq:=a3,ds:=a4,eb:=a5,si:=a6,mo:=mo}))
 9 1] [some (V.int IntKind.i64 a),some (V.lst x (k+1) cs),some (V.str h),some (V.ptr 0 0),some (V.bool false),some (V.slice 1 0 (0+(k+1)) false 0 0),some
 (V.int IntKind.i64 1),some (V.slice 4 0 (TN h {st:=a1,pi:=a2,rq:=a3,ds:=a4,eb:=a5,si:=a6,mo:=mo}) false 0 0),some (V.slice 5 0 (TN h {st:=a1,pi:=a2,rq:=a3,ds:=a4,eb:=a5,si:=a6,mo:=mo})
 false 0 0),some (V.int IntKind.i64 0)] [Blk.row [V.bool a1,V.bool a2,V.bool a3,V.bool a4,V.bool a5,V.bool a6,V.int IntKind.i64 mo] 34 7,Blk.row cs 9 1,Blk.row
 (oilK (TN h {st:=a1,pi:=a2,rq:=a3,ds:=a4,eb:=a5,si:=a6,mo:=mo})) 9 1,Blk.row (shiftL 4 (TS h {st:=a1,pi:=a2,rq:=a3,ds:=a4,eb:=a5,si:=a6,mo:=mo}))
 9 1,Blk.row (shiftL 4 (TS h {st:=a1,pi:=a2,rq:=a3,ds:=a4,eb:=a5,si:=a6,mo:=mo})) 9 1,Blk.row (shiftL 5 (TS h {st:=a1,pi:=a2,rq:=a3,ds:=a4,eb:=a5,si:=a6,mo:=mo}))
 9 1]∧bif ciPre {a:=a,x:=x,n:=k+1,cs:=cs,h:=h,cc:=[V.bool a1,V.bool a2,V.bool a3,V.bool a4,V.bool a5,V.bool a6,V.int IntKind.i64 mo],ow:=cs,k1:=0+(k+1),r:=1,ds:=shiftL 5 (TS h {st:=a1,pi:=a2,rq:=a3,ds:=a4,eb:=a5,si:=a6,mo:=mo}),k:=TN h {st:=a1,pi:=a2,rq:=a3,ds:=a4,eb:=a5,si:=a6,mo:=mo},i:=0}
 then Fits 0 [V.lst x (k+1) cs,V.bool false,V.slice 0 0 (k+1) false 0 0,V.int IntKind.i64 0] [Blk.row cs 9 1] [some (V.lst x (k+1) cs),some (V.bool false),some
 (V.slice 1 0 (0+(k+1)) false 0 0),some (V.int IntKind.i64 0)] [Blk.row [V.bool a1,V.bool a2,V.bool a3,V.bool a4,V.bool a5,V.bool a6,V.int IntKind.i64 mo] 34 7,
 Blk.row cs 9 1,Blk.row (oilK (TN h {st:=a1,pi:=a2,rq:=a3,ds:=a4,eb:=a5,si:=a6,mo:=mo})) 9 1,Blk.row (shiftL 5 (TS h {st:=a1,pi:=a2,rq:=a3,ds:=a4,eb:=a5,si:=a6,mo:=mo}))
 9 1]∧bif cjPre {x:=x,cs:=cs,k:=k+1,i:=0}then R (V.bool true)else False else False else False else False else False else False else False else R (V.bool
 false)else R (V.bool false)else R (V.bool false)else R (V.bool false)else R (V.bool false)else R (V.bool false)else R (V.bool false)else False else False else
 False else False else False):=by kernel_rfl
structure CL where
 x:Value
 n:Nat
 cs:List V
 w:Int
 nu:Int
 fi:List UInt8
 a:Int
 i:Nat
@[reducible] def lzR:LstFlag:=⟨false,false,true⟩
theorem loN_ge:∀(l:List (List UInt8)) (n:Nat),n+10*l.length≤loN n l∨9000≤loN n l
 |[],n=>.inl (by simp[loN])
 |s::r,n=>by
  rw[loN];split
  ·rcases loN_ge r (n+10+min 9000 s.length)with h|h
   ·exact .inl (by rw[List.length_cons];omega)
   ·exact .inr h
  ·exact .inr (by omega)
theorem loN_mono:∀(l:List (List UInt8)) (n:Nat),n≤loN n l
 |[],n=>Nat.le_refl _
 |s::r,n=>by
  rw[loN];split
  ·have:=loN_mono r (n+10+min 9000 s.length);omega
  ·exact Nat.le_refl _
theorem loN_all:∀(l:List (List UInt8)) (n:Nat),loN n l<9000→∀s∈l,s.length<9000
 |[],_,_,s,hs=>by cases hs
 |c::r,n,h,s,hs=>by
  rw[loN]at h;split at h
  ·have:=loN_mono r (n+10+min 9000 c.length);rcases List.mem_cons.1 hs with rfl|hs
   ·omega
   ·exact loN_all r _ h s hs
  ·omega
theorem not_long{l:List (List UInt8)}(h:longS l=false):l.length≤900∧l.all shortS=true:=by
 have h:=of_decide_eq_false h;refine⟨by rcases loN_ge l 0 with h1|h1<;>omega,?_⟩;rw[List.all_eq_true];intro s hs;have:=loN_all l 0 (by omega) s hs;exact Nat.ble_eq_true_of_le (by omega)
theorem view_at{st:St}{k n c z:Nat}{ex own:Bool}{t:TypeId}{q:List (List UInt8)}(hk:st[k]?=some (.ro own (strs q))∨st[k]?=some (.row (strs q) t 1))(hn:n=q.length):viewS st (.slice k 0 n ex c z)=some (true,q):=by
 subst hn;have h1:((strs q).drop 0).take (q.length*1)=strs q:=by rw[List.drop_zero,List.take_of_length_le (by rw[strs_len];omega)]
 have h2:Nat.ble (0+q.length*1) q.length=true:=Nat.ble_eq_true_of_le (by omega);rcases hk with hk|hk<;>simp only[viewS,viewC,hk,h1,h2,strs_len,strs_isStr,strs_strOf,Nat.beq_refl,Bool.and_self]
theorem ofr{st:St}{k n c z:Nat}{ex own:Bool}{t:TypeId}(q:List (List UInt8))(co:Int)(hk:st[k]?=some (.ro own (strs q))∨st[k]?=some (.row (strs q) t 1))(hn:n=q.length)(h1:q.length≤100000)(h2:q.all shortS=true):ofOK (.slice k 0 n ex c z) st=true∧ofV co (.slice k 0 n ex c z) st=ofC co q:=by
 obtain⟨k1,k2⟩:=of_view (view_at (ex:=ex) (c:=c) (z:=z) hk hn) (by omega) h2;exact⟨k1,k2 co⟩
theorem one_len(b:Bool)(w:List UInt8):(bif b then[w]else[]).length≤1:=by cases b<;>simp
theorem caps_len7(c:CP):(capW c).length≤6:=by
 unfold capW;simp only[List.length_append];have:=one_len c.pi wPI;have:=one_len c.si (sizeT c.mo);have:=one_len c.st wST;have:=one_len c.rq wRQ;have:=one_len c.ds wDS;have:=one_len c.eb wEB;omega
theorem tx_len(h:List UInt8)(c:CP):txNV h c≤7:=by
 unfold txNV;rw[List.length_cons];have:=caps_len7 c;omega
theorem tx_okS(h:List UInt8)(c:CP):okS (txNV h c) (txSV h c)=true:=okS_mk (l:=h::capW c) (by have:=tx_len h c;unfold txNV at this;omega)
theorem tx_flat(h:List UInt8)(c:CP):flatL (txSV h c)=true:=strs_flat _
theorem ci_pre(a:Int)(x:Value)(n:Nat)(cs:List V)(h:List UInt8)(cc ow:List V)(k1:Nat)(r:Int)(c:CP)(f1:flatL cc=true)(f2:flatL ow=true):ciPre ⟨a,x,n,cs,h,cc,ow,k1,r,txSV h c,txNV h c,0⟩=true:=by
 have:=tx_len h c;show(okS (txNV h c) (txSV h c)&&(flatL cc&&(flatL ow&&(Nat.ble 0 (txNV h c)&&Nat.ble (txNV h c) 100000))))=true;rw[tx_okS,f1,f2,Nat.ble_eq_true_of_le (by omega:0≤txNV h c),Nat.ble_eq_true_of_le (by omega:txNV h c≤100000)];rfl
theorem tx_shift(k:Nat)(h:List UInt8)(c:CP):shiftL k (txSV h c)=txSV h c:=strs_shift k _
theorem ce_closeB(a:Int)(x:Value)(k:Nat)(l:List (List UInt8))(hl:l.length=k+1)(h:List UInt8)(a1 a2 a3 a4 a5 a6:Bool)(mo:Int)(hbig:l.length≤9223372036854775807)(hm:isI64 mo=true):
  FnSat Tryd.prog 5 [.int .i64 a,.lst x (k+1) (strs l),.str h,.agg [.bool a1,.bool a2,.bool a3,.bool a4,.bool a5,.bool a6,.int .i64 mo]] [] (fun v _=>v=.bool true):=by
 refine runW_ok (lim:=9) (n:=10) mixed CET_ok ?_;rw[ce_lawB];have hO:loOK (.lst x (k+1) (strs l)) []=true:=by unfold loOK;rw[view_lst hl.symm];exact Nat.ble_eq_true_of_le hbig
 have hB:loB (.lst x (k+1) (strs l)) []=longS l:=by unfold loB;rw[view_lst hl.symm]
 rw[hO,hB,cond_true];refine bif_intro (fun _=>rfl) (fun hlong=>bif_intro (fun _=>rfl) (fun hf=>?_));obtain⟨hle,hs⟩:=not_long hlong;rw[hl]at hle;have hsat:l.all shortS=true:=hs;have hR:rOK (k+1) (strs l)=true:=by
  unfold rOK;rw[strs_strOf,hs,←hl,okS_mk (by omega)];rfl
 have hV:rVal a (strs l)=ofC a l:=by unfold rVal;rw[strs_strOf]
 have fs:=strs_flat l;refine must_intro (by rw[strs_len,strs_one,hl,Nat.mul_one,Nat.beq_refl];rfl) (must_intro (by rw[Nat.ble_eq_true_of_le (by omega),Nat.ble_eq_true_of_le (by omega)];rfl) ?_);refine must_intro (ofr (own:=false) (t:=9) l a (by first|exact .inl rfl|exact .inr rfl) (by omega) (by omega) hs).1 ?_;rw[(ofr (own:=false) (t:=9) l a ?_ ?_ (by omega) hs).2]
 rotate_left
 ·first|exact .inl rfl|exact .inr rfl
 ·omega
 rw[hR,hV];simp only[beq_self_eq_true,cond_true,hm,bne_self_eq_false,cond_false,tx_shift,List.nil_append,List.drop_zero,Nat.zero_add];refine⟨ci_fits a x _ _ h _ _ _ _ _ _ _ _ rfl fs (tx_flat h _) (tx_flat h _) 0 2 3 4 _ rfl rfl rfl rfl (by decide),must_intro (ci_pre a x _ _ h _ _ _ _ _ rfl fs) ?_⟩;refine⟨ci_fits a x _ _ h _ _ _ _ _ _ _ _ rfl fs (tx_flat h _) (tx_flat h _) 0 1 4 5 _ rfl rfl rfl rfl (by decide),must_intro (ci_pre a x _ _ h _ _ _ _ _ rfl fs) ?_⟩;refine⟨cj_fits x (strs l) (k+1) 0 fs 1 _ rfl,must_intro ?_ trivial⟩;show(okS (k+1) (strs l)&&(Nat.ble 0 (k+1)&&Nat.ble (k+1) 100000))=true;rw[←hl,okS_mk (by omega),Nat.ble_eq_true_of_le (by omega),Nat.ble_eq_true_of_le (by omega)];rfl
theorem ce_closeA(a:Int)(x:Value)(h:List UInt8)(a1 a2 a3 a4 a5 a6:Bool)(mo:Int)(hm:isI64 mo=true):
  FnSat Tryd.prog 5 [.int .i64 a,.lst x 0 [],.str h,.agg [.bool a1,.bool a2,.bool a3,.bool a4,.bool a5,.bool a6,.int .i64 mo]] [] (fun v _=>v=.bool true):=by
 refine runW_ok (lim:=9) (n:=10) mixed CET_ok ?_;rw[ce_lawA];have hO:loOK (.lst x 0 []) []=true:=rfl;have hB:loB (.lst x 0 []) []=false:=rfl;rw[hO,hB,cond_true,cond_false];refine bif_intro (fun _=>rfl) (fun hf=>?_);refine must_intro (ofr (own:=false) (t:=9) [] a (by first|exact .inl rfl|exact .inr rfl) rfl (by simp) rfl).1 ?_;rw[(ofr (own:=false) (t:=9) [] a ?_ ?_ (by simp) rfl).2]
 rotate_left
 ·first|exact .inl rfl|exact .inr rfl
 ·rfl
 rw[show rOK 0 []=true from rfl,show rVal a []=ofC a []from rfl];simp only[beq_self_eq_true,cond_true,hm,bne_self_eq_false,cond_false,tx_shift,List.nil_append,List.drop_zero,Nat.zero_add];refine⟨ci_fits a x _ _ h _ _ _ _ _ _ _ _ rfl rfl (tx_flat h _) (tx_flat h _) 0 1 2 3 _ rfl rfl rfl rfl (by decide),must_intro (ci_pre a x _ _ h _ _ _ _ _ rfl rfl) ?_⟩;refine⟨ci_fits a x _ _ h _ _ _ _ _ _ _ _ rfl rfl (tx_flat h _) (tx_flat h _) 0 1 4 5 _ rfl rfl rfl rfl (by decide),must_intro (ci_pre a x _ _ h _ _ _ _ _ rfl rfl) ?_⟩;exact⟨cj_fits x [] 0 0 rfl 1 _ rfl,trivial⟩
theorem ce_close(a:Int)(x:Value)(l:List (List UInt8))(h:List UInt8)(a1 a2 a3 a4 a5 a6:Bool)(mo:Int)(hbig:l.length≤9223372036854775807)(hm:(Lit.int .i64 mo).wf=true):
  FnSat Tryd.prog 5 [.int .i64 a,lstS x l,.str h,.agg [.bool a1,.bool a2,.bool a3,.bool a4,.bool a5,.bool a6,.int .i64 mo]] [] (fun v _=>v=.bool true):=by
 have hm2:isI64 mo=true:=by
  unfold Lit.wf at hm;unfold isI64;simpa[IntKind.min,IntKind.max,IntKind.signed,IntKind.bits]using hm
 unfold lstS;cases l with
 |nil=>exact ce_closeA a x h a1 a2 a3 a4 a5 a6 mo hm2
 |cons s r=>exact ce_closeB a x r.length (s::r) rfl h a1 a2 a3 a4 a5 a6 mo hbig hm2
end Go.Proofs.YtmcdajbfomngcaaDoor
namespace Go.Proofs.YtmcdajbfomngcaaDoor
open Go Go.Vm Go.RowKit
open Go.ChangeShapes Go.WideShapes Go.ChangeAt
set_option linter.unusedVariables false
set_option linter.unusedSectionVars false
set_option maxRecDepth 100000
def strsSh:Sh:=.lst .str
theorem strsSh_ok:shOk Tryd.prog 9 strsSh 25=true:=by kernel_rfl
def IsStrs(w:World)(v:Value):Prop:=∃xan an,@real gl (Frz.of w) [] (lstS xan an)=some v∧an.length≤maxLen
theorem open_Strs{H:Type}{enc:TypeId×Value→H}{W:World}{b0:Nat}{r:Reach}{v:Value}{d:DataW H}{ps:List MemPlace}
  (hval:Value.okWide Tryd.prog W r b0 25 v)(hd:DataW.Trod enc Tryd.prog W 0 (fun _=>true) true 25 v d ps):IsStrs W v:=by
 obtain⟨sa,sl,sc,rfl⟩:=okWide_slice Tryd.underlying25 hval;obtain⟨fuel,hf⟩:=hd;obtain⟨dd,h1,h2⟩:=@open_sh gl _ _ _ _ _ _ _ 9 strsSh 25 fuel _ _ strsSh_ok hf;obtain⟨xan,ds_an,q_an,w_an,y_an⟩:=ofLst h1;subst q_an;obtain⟨an,c_an,m_an⟩:=strsD _ ds_an y_an;have n_an:ds_an.length=an.length:=by rw[c_an,List.length_map]
 simp only[cellsD,cellsDs,m_an,n_an,List.append_nil,List.cons_append,List.nil_append]at h2;have h3:=@realL_of0 gl (Frz.of W) [] _ _ h2;refine⟨xan,an,?_,by rw[←n_an];exact w_an⟩;simp only[realL]at h3;split at h3
 ·rename_i q1 q2 q3 q4;obtain⟨e1,_⟩:=List.cons.inj (Option.some.inj h3);subst e1;exact q3
 ·cases h3
def capsSh:Sh:=.agg [.bool,.bool,.bool,.bool,.bool,.bool,.int .i64]
theorem capsSh_ok:shOk Tryd.prog 9 capsSh 34=true:=by kernel_rfl
def IsCaps(w:World)(v:Value):Prop:=∃st pi rq ds eb si mo,@real gl (Frz.of w) [] (.agg [.bool st,.bool pi,.bool rq,.bool ds,.bool eb,.bool si,.int .i64 mo])=some v∧(Lit.int .i64 mo).wf=true
theorem open_Caps{H:Type}{enc:TypeId×Value→H}{W:World}{b0:Nat}{r:Reach}{v:Value}{d:DataW H}{ps:List MemPlace}
  (hval:Value.okWide Tryd.prog W r b0 34 v)(hd:DataW.Trod enc Tryd.prog W 0 (fun _=>true) true 34 v d ps):IsCaps W v:=by
 obtain⟨cs,rfl,_⟩:=okWide_struct Tryd.underlying34 hval;obtain⟨fuel,hf⟩:=hd;obtain⟨dd,h1,h2⟩:=@open_sh gl _ _ _ _ _ _ _ 9 capsSh 34 fuel _ _ capsSh_ok hf;obtain⟨l0_0,e0,g0_0⟩:=ofAgg h1;obtain⟨d0_0,l0_1,e0_0,a0_0,g0_1⟩:=all2_cons g0_0;obtain⟨d0_1,l0_2,e0_1,a0_1,g0_2⟩:=all2_cons g0_1;obtain⟨d0_2,l0_3,e0_2,a0_2,g0_3⟩:=all2_cons g0_2;obtain⟨d0_3,l0_4,e0_3,a0_3,g0_4⟩:=all2_cons g0_3;obtain⟨d0_4,l0_5,e0_4,a0_4,g0_5⟩:=all2_cons g0_4;obtain⟨d0_5,l0_6,e0_5,a0_5,g0_6⟩:=all2_cons g0_5;obtain⟨d0_6,l0_7,e0_6,a0_6,g0_7⟩:=all2_cons g0_6;have z0:=all2_nil g0_7;subst e0 e0_0 e0_1 e0_2 e0_3 e0_4 e0_5 e0_6 z0;obtain⟨st,q_st⟩:=ofBool a0_0;subst q_st;obtain⟨pi,q_pi⟩:=ofBool a0_1;subst q_pi;obtain⟨rq,q_rq⟩:=ofBool a0_2;subst q_rq;obtain⟨ds,q_ds⟩:=ofBool a0_3;subst q_ds;obtain⟨eb,q_eb⟩:=ofBool a0_4;subst q_eb;obtain⟨si,q_si⟩:=ofBool a0_5;subst q_si;obtain⟨mo,q_mo,w_mo⟩:=ofInt a0_6;subst q_mo;simp only[cellsD,cellsDs,List.append_nil,List.cons_append,List.nil_append]at h2;have h3:=@realL_of0 gl (Frz.of W) [] _ _ h2;refine⟨st,pi,rq,ds,eb,si,mo,?_,w_mo⟩;have h4:=@Go.Vm.real_agg_mk gl (Frz.of W) [] _ _ h3;rw[show(Value.agg cs).cells=cs from rfl,Array.toArray_toList]at h4;exact h4
theorem maxLen_eq:maxLen=9223372036854775807:=by decide
theorem bytes_str{w:World}(s:ByteArray):@real gl (Frz.of w) [] (.str s.data.toList)=some (.string s):=by simp[real]
theorem capsTells_walk(a0:Int)(v1:Value)(a2:ByteArray)(v3:Value)(w:World)(w0:(Lit.int .i64 a0).wf=true)(x1:IsStrs w v1)(w2:a2.size≤maxLen)(x3:IsCaps w v3)(hg:@GOk gl (Frz.of w) w.heap.size w):
  Calls Tryd.prog 5 #[.int .i64 a0,v1,.string a2,v3] w (fun e w'=>e=.returned (.bool true)∧Below w.heap.size w w'):=by
 obtain⟨xan_1,an_1,re1,hy_an_1⟩:=x1;obtain⟨st_3,pi_3,rq_3,ds_3,eb_3,si_3,mo_3,re3,hy_mo_3⟩:=x3;refine @frz_law gl Tryd.prog 5 [.int .i64 a0,lstS xan_1 an_1,.str a2.data.toList,.agg [.bool st_3,.bool pi_3,.bool rq_3,.bool ds_3,.bool eb_3,.bool si_3,.int .i64 mo_3]] [.int .i64 a0,v1,.string a2,v3] w (@ce_close (Frz.of w) a0 xan_1 an_1 a2.data.toList st_3 pi_3 rq_3 ds_3 eb_3 si_3 mo_3 (by rw[maxLen_eq]at hy_an_1;exact hy_an_1) hy_mo_3) ?_ hg;simp only[realL,bytes_str,re1,re3]
 try rfl
end Go.Proofs.YtmcdajbfomngcaaDoor
namespace Go.Proofs.YtmcdajbfomngcaaDoor
open Go Go.Vm Go.RowKit
open Go.ChangeShapes Go.WideShapes Go.ChangeAt Go.WideMaps Go.WideElems
set_option linter.unusedVariables false
set_option linter.unusedSectionVars false
set_option maxRecDepth 100000
variable [Φ:Frz]
def partsD:DataW Unit→List (DataW Unit)
 |.agg l=>l
 |_=>[]
def ofD:DataW Unit→V
 |.lit (.int k n)=>.int k n
 |_=>.bool false
theorem var_heap{P:Program}{w:World}{n:String}{g:Nat}{cs:Array Value}(hg:P.globalNamed n=some g)(h:w.var? P n=some cs):∃t fz,w.heap[g]?=some (.cells cs t fz):=by
 simp only[World.var?,hg,Option.bind_some]at h;split at h
 ·rename_i c t fz hb;cases h;exact⟨t,fz,hb⟩
 ·cases h
section
def Cells(W:World)(g:Nat)(C:List V):Prop:=∃arr t fz,W.heap[g]?=some (.cells arr t fz)∧(∀i v,C[i]?=some v→∃x,real [] v=some x∧arr[0+i]?=some x)∧arr.size=0+C.length
theorem int_cells{W:World}{n:String}{g t0 t e N f0:Nat}{k:IntKind}{C:List V}{d:DataW Unit}{cs0:Array Value}{p0:List MemPlace}{sp:Nat→Bool}{held:Bool}{enc:TypeId×Value→Unit}(hg:Tryd.prog.globalNamed n=some g)(hu:Tryd.prog.underlying t=some (.array N e))(hk:Tryd.prog.underlying e=some (.int k))(hw:Tryd.prog.cellsOf e=1)(hct:Tryd.prog.cellsOf t=N)
  (hd:d=.agg (partsD d))(hC:C=(partsD d).map ofD)(ht0:t0=t)(hv0:W.var? Tryd.prog n=some cs0)(hd0:DataW.trod enc Tryd.prog W 0 sp held f0 t0 cs0.toList=some (d,p0)):Cells W g C:=by
 subst ht0;obtain⟨ty,fz,hheap⟩:=var_heap hg hv0;obtain⟨xs,m1,rfl,hx1,hlen,hn,hel⟩:=DataW.trod_array hu hd0;rw[hd]at hx1;simp only[Prod.mk.injEq,DataW.agg.injEq]at hx1;have hD:=hx1.1;refine⟨cs0,ty,fz,hheap,fun i v hv=>?_,?_⟩
 ·rw[hC,hD,List.getElem?_map,List.getElem?_map]at hv;cases hxi:xs[i]? with
  |none=>rw[hxi]at hv;cases hv
  |some x=>
   rw[hxi]at hv;simp only[Option.map_some,Option.some.injEq]at hv;have hi:i<N:=by rw[←hn];exact(List.getElem?_eq_some_iff.1 hxi).1
   have h1:=hel i hi;rw[hxi,hw,Nat.mul_one]at h1;obtain⟨a,e0,e1,wa⟩:=DataW.trod_int hk h1;subst e1;simp only[ofD]at hv;subst hv;refine⟨.int k a,rfl,?_⟩;rw[Nat.zero_add];have e2:((cs0.toList.drop i).take 1)[0]?=some (Value.int k a):=by rw[e0];rfl
   rw[List.getElem?_take,if_pos (by omega),List.getElem?_drop,Nat.add_zero]at e2;simpa using e2
 ·rw[hC,hD,Nat.zero_add,List.length_map,List.length_map,hn,←hct];simpa using hlen
end
theorem plain_part{P:Program}{l:List (String×DataW Unit)}{w:World}(h:laidMetH P l w):laidMet P (l.filter fun x=>x.2.handleName?.isNone) w:=by
 unfold laidMetH at h;generalize hfl:(l.filter fun x=>x.2.handleName?.isSome)=fl at h;cases fl with
 |nil=>
  have e:(l.filter fun x=>x.2.handleName?.isNone)=l:=by
   rw[List.filter_eq_self];intro x hx;have:=(List.filter_eq_nil_iff.1 hfl) x hx;cases hn:x.2.handleName? with
   |none=>rfl
   |some s=>rw[hn]at this;exact absurd rfl this
  rw[e];exact h
 |cons a b=>exact h.1
theorem laid_var{P:Program}{w:World}{n:String}{d:DataW Unit}:∀{l:List (String×DataW Unit)} {ps:List MemPlace},DataW.LaidVars P w l ps→(n,d)∈l→∃g t cs fuel p,P.globalNamed n=some g∧(P.globals[g]?).map (·.type)=some t∧w.var? P n=some cs∧DataW.trod (fun _=>()) P w 0 (fun _=>true) false fuel t cs.toList=some (d,p)
 |[],_,_,h=>by cases h
 |(n',d')::r,ps,h,hm=>by
  obtain⟨g,t,cs,fuel,p,q,h1,h2,h3,h4,h5,_⟩:=h;rcases List.mem_cons.1 hm with e|hm
  ·cases e;exact⟨g,t,cs,fuel,p,h1,h2,h3,h4⟩
  ·exact laid_var h5 hm
theorem plain_var{P:Program}{l:List (String×DataW Unit)}{w:World}(h:laidMetH P l w){n:String}{d:DataW Unit}(hm:(n,d)∈l)(hn:d.handleName?.isNone=true):∃g t cs fuel p,P.globalNamed n=some g∧(P.globals[g]?).map (·.type)=some t∧w.var? P n=some cs∧DataW.trod (fun _=>()) P w 0 (fun _=>true) false fuel t cs.toList=some (d,p):=by
 obtain⟨ps,hl,_,_⟩:=plain_part h;exact laid_var hl (List.mem_filter.2 ⟨hm,hn⟩)
theorem own:ownKnob Tryd.prog.godebug=none:=by kernel_rfl
theorem cells_6{W:World}(h:laidMetH Tryd.prog Rows.capsTellsRow.laid W):Cells W 6 powC:=by
 have hm:("internal/strconv.uint64pow10",(Rows.laid_internal_strconv_uint64pow10:DataW Unit))∈Rows.capsTellsRow.laid:=List.mem_of_getElem? (i:=2) rfl;obtain⟨g,t,cs,fuel,p,h1,h2,h3,h4⟩:=plain_var h hm rfl;have e1:Tryd.prog.globalNamed "internal/strconv.uint64pow10"=some 6:=by kernel_rfl
 obtain rfl:=Option.some.inj (e1.symm.trans h1);have e2:(Tryd.prog.globals[6]?).map (·.type)=some 142:=by kernel_rfl
 exact int_cells (n:= "internal/strconv.uint64pow10") (t:=142) (e:=30) (N:=20) (k:=.u64) e1 (by kernel_rfl) (by kernel_rfl) (by kernel_rfl) (by kernel_rfl) rfl (by kernel_rfl) (Option.some.inj (e2.symm.trans h2)).symm h3 h4
theorem cells_2{W:World}(h:laidMetH Tryd.prog Rows.capsTellsRow.laid W):Cells W 2 firstC:=by
 have hm:("unicode/utf8.first",(Rows.laid_unicode_utf8_first:DataW Unit))∈Rows.capsTellsRow.laid:=List.mem_of_getElem? (i:=6) rfl;obtain⟨g,t,cs,fuel,p,h1,h2,h3,h4⟩:=plain_var h hm rfl;have e1:Tryd.prog.globalNamed "unicode/utf8.first"=some 2:=by kernel_rfl
 obtain rfl:=Option.some.inj (e1.symm.trans h1);have e2:(Tryd.prog.globals[2]?).map (·.type)=some 117:=by kernel_rfl
 exact int_cells (n:= "unicode/utf8.first") (t:=117) (e:=5) (N:=256) (k:=.u8) e1 (by kernel_rfl) (by kernel_rfl) (by kernel_rfl) (by kernel_rfl) rfl (by kernel_rfl) (Option.some.inj (e2.symm.trans h2)).symm h3 h4
theorem cells_3{W:World}(h:laidMetH Tryd.prog Rows.capsTellsRow.laid W):Cells W 3 accC:=by
 have hm:("unicode/utf8.acceptRanges",(Rows.laid_unicode_utf8_acceptRanges:DataW Unit))∈Rows.capsTellsRow.laid:=List.mem_of_getElem? (i:=3) rfl;obtain⟨g,t,cs,fuel,p,h1,h2,h3,h4⟩:=plain_var h hm rfl;have e1:Tryd.prog.globalNamed "unicode/utf8.acceptRanges"=some 3:=by kernel_rfl
 obtain rfl:=Option.some.inj (e1.symm.trans h1);have e2:(Tryd.prog.globals[3]?).map (·.type)=some 120:=by kernel_rfl
 obtain rfl:=Option.some.inj (e2.symm.trans h2);obtain⟨ty,fz,hheap⟩:=var_heap e1 h3;obtain⟨xs,m1,rfl,hx1,hlen,hn,hel⟩:=DataW.trod_array (n:=16) (e:=119) (by kernel_rfl) h4;have eD:(Rows.laid_unicode_utf8_acceptRanges:DataW Unit)=.agg ((List.range 16).map fun i=>.agg [.lit (.int .u8 (Lib.accLo i)),.lit (.int .u8 (Lib.accHi i))]):=by kernel_rfl
 rw[eD]at hx1;simp only[Prod.mk.injEq,DataW.agg.injEq]at hx1;have hD:=hx1.1;have hsz:cs.size=32:=by
  have hc:Tryd.prog.cellsOf 120=32:=by kernel_rfl
  rw[hc]at hlen;simpa using hlen
 have hc2:Tryd.prog.cellsOf 119=2:=by kernel_rfl
 have both:∀i,i<16→cs[2*i]?=some (.int .u8 (Lib.accLo i))∧cs[2*i+1]?=some (.int .u8 (Lib.accHi i)):=by
  intro i hi;have h1:=hel i hi;rw[hc2]at h1;have h5:((List.range 16).map fun i=>(DataW.agg [.lit (.int .u8 (Lib.accLo i)),.lit (.int .u8 (Lib.accHi i))]:DataW Unit))[i]?=some (.agg [.lit (.int .u8 (Lib.accLo i)),.lit (.int .u8 (Lib.accHi i))]):=by
   rw[List.getElem?_map,List.getElem?_range hi];rfl
  rw[hD,List.getElem?_map]at h5;cases hxi:xs[i]? with
  |none=>rw[hxi]at h5;cases h5
  |some x=>
   rw[hxi]at h5 h1;simp only[Option.map_some,Option.some.injEq]at h5;obtain⟨y0,y1,n,rfl,hl,q0,q1⟩:=trod_struct2 Tryd.underlying119 h1;simp only[DataW.agg.injEq,List.cons.injEq,and_true]at h5;have c5:Tryd.prog.cellsOf 5=1:=by kernel_rfl
   replace q0:DataW.trod (fun _=>()) Tryd.prog W 0 (fun _=>true) false n 5 ((((cs.toList.drop (i*2)).take 2).drop 0).take (Tryd.prog.cellsOf 5))=some y0:=q0;replace q1:DataW.trod (fun _=>()) Tryd.prog W 0 (fun _=>true) false n 5 ((((cs.toList.drop (i*2)).take 2).drop 1).take (Tryd.prog.cellsOf 5))=some y1:=q1;rw[c5]at q0 q1;obtain⟨a,e0,e1,wa⟩:=DataW.trod_int (k:=.u8) (by kernel_rfl) q0;obtain⟨b,e2,e3,wb⟩:=DataW.trod_int (k:=.u8) (by kernel_rfl) q1;subst e1;subst e3;simp only[DataW.lit.injEq,Lit.int.injEq,true_and]at h5;obtain⟨ha,hb⟩:=h5;subst ha;subst hb;have e2':((((cs.toList.drop (i*2)).take 2).drop 0).take 1)[0]?=some (Value.int .u8 (Lib.accLo i)):=by rw[e0];rfl
   have e3':((((cs.toList.drop (i*2)).take 2).drop 1).take 1)[0]?=some (Value.int .u8 (Lib.accHi i)):=by rw[e2];rfl
   simp only[List.getElem?_take,List.getElem?_drop]at e2' e3';have m2:i*2=2*i:=by omega
   constructor
   ·simpa[m2]using e2'
   ·simpa[m2]using e3'
 refine⟨cs,ty,fz,hheap,fun i v hv=>?_,by rw[hsz];kernel_rfl⟩;have hi:i<32:=by
  have hl:accC.length=32:=by kernel_rfl
  rw[←hl];exact(List.getElem?_eq_some_iff.1 hv).1
 rw[Nat.zero_add];rcases(show(∃j,j<16∧i=2*j)∨(∃j,j<16∧i=2*j+1) by
  rcases Nat.mod_two_eq_zero_or_one i with h0|h0
  ·exact .inl ⟨i/2,by omega,by omega⟩
  ·exact .inr ⟨i/2,by omega,by omega⟩)with⟨j,hj,rfl⟩|⟨j,hj,rfl⟩
 ·have:=(pairs_get (f:=fun i=>V.int .u8 (Lib.accLo i)) (g:=fun i=>V.int .u8 (Lib.accHi i)) hj).1;have e:=this.symm.trans hv;cases e;exact⟨_,rfl,(both j hj).1⟩
 ·have:=(pairs_get (f:=fun i=>V.int .u8 (Lib.accLo i)) (g:=fun i=>V.int .u8 (Lib.accHi i)) hj).2;have e:=this.symm.trans hv;cases e;exact⟨_,rfl,(both j hj).2⟩
theorem laid_var2{P:Program}{w:World}{n:String}{d:DataW Unit}:∀{l:List (String×DataW Unit)} {ps:List MemPlace},DataW.LaidVars P w l ps→(n,d)∈l→∃g t cs fuel p,P.globalNamed n=some g∧(P.globals[g]?).map (·.type)=some t∧w.var? P n=some cs∧DataW.trod (fun _=>()) P w 0 (fun _=>true) false fuel t cs.toList=some (d,p)∧∀i,i<cs.size→MemPlace.cell g i∈ps
 |[],_,_,h=>by cases h
 |(n',d')::r,ps,h,hm=>by
  obtain⟨g,t,cs,fuel,p,q,h1,h2,h3,h4,h5,h6⟩:=h;rcases List.mem_cons.1 hm with e|hm
  ·cases e;refine⟨g,t,cs,fuel,p,h1,h2,h3,h4,fun i hi=>?_⟩;rw[h6];refine List.mem_append_left _ (List.mem_append_left _ ?_);exact List.mem_map.2 ⟨i,List.mem_range.2 hi,by simp⟩
  ·obtain⟨g2,t2,cs2,fuel2,p2,k1,k2,k3,k4,k5⟩:=laid_var2 h5 hm;exact⟨g2,t2,cs2,fuel2,p2,k1,k2,k3,k4,fun i hi=>by rw[h6];exact List.mem_append_right _ (k5 i hi)⟩
theorem trod_iface{P:Program}{w:World}{base:Nat}{sp:Nat→Bool}{fuel:Nat}{t:TypeId}{cs:List Value}{enc:TypeId×Value→Unit}{name:String}{d:DataW Unit}{p:List MemPlace}(ht:∃ms,P.underlying t=some (.interface ms))(h:DataW.trod enc P w base sp false fuel t cs=some (.iface name d,p)):
  ∃u v m,cs=[.iface u v]∧P.typeName? 3 u=some name∧DataW.trod enc P w base sp false m u v.cells.toList=some (d,p):=by
 obtain⟨ms,ht⟩:=ht;cases fuel with
 |zero=>simp[DataW.trod]at h
 |succ n=>
  unfold DataW.trod at h;rw[ht]at h;split at h<;>simp_all;rename_i u v hh;cases hn:P.typeName? 3 u with
  |none=>rw[hn]at h;simp at h
  |some nm=>
   rw[hn]at h;simp only[Option.map_eq_some_iff]at h;obtain⟨x,hx,he⟩:=h;simp only[Prod.mk.injEq,DataW.iface.injEq]at he;obtain⟨⟨rfl,rfl⟩,rfl⟩:=he;refine⟨u,v,?_⟩
   first|exact⟨⟨rfl,rfl⟩,hn,n,hx⟩|exact⟨n,⟨rfl,rfl⟩,hn,hx⟩|exact⟨rfl,hn,n,hx⟩|exact⟨n,rfl,hn,hx⟩|exact⟨n,by simp,hn,hx⟩
theorem trod_ptr_of{P:Program}{w:World}{base:Nat}{sp:Nat→Bool}{held:Bool}{fuel:Nat}{t:TypeId}{cs:List Value}{enc:TypeId×Value→Unit}{d:DataW Unit}{p:List MemPlace}(h:DataW.trod enc P w base sp held fuel t cs=some (.ptr d,p)):∃e,P.underlying t=some (.pointer e):=by
 cases fuel with
 |zero=>simp[DataW.trod]at h
 |succ n=>
  unfold DataW.trod at h;cases hu:P.underlying t with
  |none=>rw[hu]at h;simp at h
  |some u=>
   rw[hu]at h;cases u with
   |pointer e=>exact⟨e,rfl⟩
   |_=>
    exfalso;revert h;simp only
    repeat' split
    all_goals (intro h;simp_all [Option.bind_eq_some_iff])
theorem trod_lit_nil{P:Program}{w:World}{base:Nat}{sp:Nat→Bool}{held:Bool}{fuel:Nat}{t:TypeId}{enc:TypeId×Value→Unit}{l:Lit}{p:List MemPlace}(h:DataW.trod enc P w base sp held fuel t []=some (.lit l,p)):False:=by
 cases fuel with
 |zero=>simp[DataW.trod]at h
 |succ n=>
  unfold DataW.trod at h;cases hu:P.underlying t with
  |none=>rw[hu]at h;simp at h
  |some u=>
   rw[hu]at h;revert h;simp only
   repeat' split
   all_goals (intro h;simp_all [Option.bind_eq_some_iff])
theorem mapM_one{α β:Type}{f:α→Option β}:∀{l:List α} {y:β},l.mapM f=some [y]→∃x,f x=some y
 |[],y,h=>by simp at h
 |x::l,y,h=>by
  simp only[List.mapM_cons,Option.bind_eq_bind,Option.bind_eq_some_iff,Option.pure_def,Option.some.injEq,List.cons.injEq]at h;obtain⟨a,ha,b,hb,rfl,rfl⟩:=h;exact⟨x,ha⟩
theorem trod_agg_nil{P:Program}{w:World}{base:Nat}{sp:Nat→Bool}{held:Bool}{fuel:Nat}{t:TypeId}{enc:TypeId×Value→Unit}{l:Lit}{p:List MemPlace}(h:DataW.trod enc P w base sp held fuel t []=some (.agg [.lit l],p)):False:=by
 cases fuel with
 |zero=>simp[DataW.trod]at h
 |succ n=>
  unfold DataW.trod at h;cases hu:P.underlying t with
  |none=>rw[hu]at h;simp at h
  |some u=>
   rw[hu]at h;cases u with
   |struct fs=>
    simp only at h;split at h
    ·simp only[List.drop_nil,List.take_nil,Option.map_eq_some_iff,Prod.mk.injEq,DataW.agg.injEq]at h;obtain⟨xs,hx,h1,_⟩:=h
     match xs,hx,h1 with
     |[(y,q)],hx,h1=>
      simp only[List.map_cons,List.map_nil,List.cons.injEq,and_true]at h1;subst h1;obtain⟨x,hx⟩:=mapM_one hx;exact trod_lit_nil hx
     |[],hx,h1=>simp at h1
     |a::b::r,hx,h1=>simp at h1
    ·cases h
   |array k e=>
    simp only at h;split at h
    ·simp only[List.drop_nil,List.take_nil,Option.map_eq_some_iff,Prod.mk.injEq,DataW.agg.injEq]at h;obtain⟨xs,hx,h1,_⟩:=h
     match xs,hx,h1 with
     |[(y,q)],hx,h1=>
      simp only[List.map_cons,List.map_nil,List.cons.injEq,and_true]at h1;subst h1;obtain⟨x,hx⟩:=mapM_one hx;exact trod_lit_nil hx
     |[],hx,h1=>simp at h1
     |a::b::r,hx,h1=>simp at h1
    ·cases h
   |_=>
    exfalso;revert h;simp only
    repeat' split
    all_goals (intro h;simp_all [Option.bind_eq_some_iff])
set_option maxRecDepth 100000 in
theorem err_cell{W:World}(h:laidMetH Tryd.prog Rows.capsTellsRow.laid W):∃tp b o arr t fz,W.heap[5]?=some (.cells arr t fz)∧arr[0]?=some (.iface tp (.pointer (some ⟨b,o,none⟩))):=by
 have hm:("strconv.ErrRange",(Rows.laid_strconv_ErrRange:DataW Unit))∈Rows.capsTellsRow.laid:=List.mem_of_getElem? (i:=4) rfl;obtain⟨ps,hl,_,hw⟩:=plain_part h;obtain⟨g,t,cs,fuel,p,h1,h2,h3,h4,h5⟩:=laid_var2 hl (List.mem_filter.2 ⟨hm,rfl⟩);have e1:Tryd.prog.globalNamed "strconv.ErrRange"=some 5:=by kernel_rfl
 obtain rfl:=Option.some.inj (e1.symm.trans h1);have e2:(Tryd.prog.globals[5]?).map (·.type)=some 70:=by kernel_rfl
 obtain rfl:=Option.some.inj (e2.symm.trans h2);obtain⟨ty,fz,hheap⟩:=var_heap e1 h3;have eD:∃nm l,(Rows.laid_strconv_ErrRange:DataW Unit)=.iface nm (.ptr (.agg [.lit l])):=⟨_,_,rfl⟩;obtain⟨nm,lt,eD⟩:=eD;rw[eD]at h4;obtain⟨u,v,m,hcs,hname,htr⟩:=trod_iface ⟨_,Tryd.underlying70⟩ h4;obtain⟨e,hue⟩:=trod_ptr_of htr;have hsz:cs.size=1:=by have:=congrArg List.length hcs;simpa using this
 have hcs':cs=#[.iface u v]:=Array.toList_inj.1 hcs;have hc0:W.cell? ⟨5,0,none⟩=some (.iface u v):=by
  subst hcs';rw[cell_of_row W 5 0 _ ty fz hheap];rfl
 have hok:=(hw 5 0 (h5 0 (by omega))).2 _ _ hc0;obtain⟨a,rfl⟩:=okWide_pointer hue hok;have hc1:(Value.pointer a).cells.toList=[.pointer a]:=rfl;rw[hc1]at htr;rcases DataW.trod_pointer hue htr with⟨_,hx⟩|⟨ad,cs',y,n,_,hp,hx,hcells,hy⟩
 ·simp at hx
 ·simp only[List.cons.injEq,Value.pointer.injEq,and_true]at hp;subst hp;simp only[Prod.mk.injEq,DataW.ptr.injEq]at hx;have hsp:ad.spot=none:=by
   unfold World.cells? at hcells;split at hcells
   ·cases hw1:Tryd.prog.cellsOf e with
    |zero=>
     rw[hw1]at hcells;simp at hcells;subst hcells;obtain⟨y1,y2⟩:=y;simp only at hx;rw[←hx.1]at hy;exact absurd hy (fun hy=>trod_agg_nil hy)
    |succ k=>
     rw[hw1,List.range_succ_eq_map,List.mapM_cons]at hcells;have e0:ad.add 0=ad:=by simp[Addr.add]
     rw[e0]at hcells;cases hcc:W.cell? ad with
     |none=>rw[hcc]at hcells;simp at hcells
     |some c=>
      unfold World.cell? at hcc;split at hcc
      ·cases hs:ad.spot with
       |none=>rfl
       |some s=>simp[hs]at hcc
      ·cases hcc
   ·cases hcells
  refine⟨u,ad.block,ad.off,cs,ty,fz,hheap,?_⟩;subst hcs';obtain⟨b,o,s⟩:=ad;simp only at hsp;subst hsp;rfl
theorem laid_gok{W:World}(hΦ:∀k o,Φ.φ k=some o→W.heap[k]?=some o)(h:laidMetH Tryd.prog Rows.capsTellsRow.laid W):GOk W.heap.size W:=by
 have low:∀{g:Nat} {C:List V},Cells W g C→g<W.heap.size:=fun⟨_,_,_,hh,_⟩=>(Array.getElem?_eq_some_iff.1 hh).1;have fin:∀{g:Nat} {C:List V} {b:Bool},Cells W g C→g<W.heap.size∧∃arr t fz,W.heap[g]?=some (.cells arr t fz)∧(∀i v,C[i]?=some v→∃x,real [] v=some x∧arr[0+i]?=some x)∧(b=true→arr.size=0+C.length):=fun hc=>by
  obtain⟨arr,t,fz,h1,h2,h3⟩:=hc;exact⟨(Array.getElem?_eq_some_iff.1 h1).1,arr,t,fz,h1,h2,fun _=>h3⟩
 refine⟨fun k cs hk=>?_,fun k hk=>?_,fun k o hk=>⟨(Array.getElem?_eq_some_iff.1 (hΦ k o hk)).1,hΦ k o hk⟩⟩
 ·by_cases e2:k=2
  ·subst e2;cases hk;exact fin (cells_2 h)
  by_cases e3:k=3
  ·subst e3;cases hk;exact fin (cells_3 h)
  by_cases e6:k=6
  ·subst e6;cases hk;exact fin (cells_6 h)
  exfalso;revert hk;rcases k with _|_|_|_|_|_|_|_|_|_|k<;>intro hk<;>first|(cases hk;done)|omega
 ·by_cases e5:k=5
  ·subst e5;obtain⟨tp,b,o,arr,t,fz,hheap,harr⟩:=err_cell h;exact⟨(Array.getElem?_eq_some_iff.1 hheap).1,arr,t,fz,_,hheap,harr,.inr ⟨_,_,rfl⟩⟩
  exfalso;revert hk;rcases k with _|_|_|_|_|_|_|_|_|_|k<;>intro hk<;>first|(cases hk;done)|omega
end Go.Proofs.YtmcdajbfomngcaaDoor
