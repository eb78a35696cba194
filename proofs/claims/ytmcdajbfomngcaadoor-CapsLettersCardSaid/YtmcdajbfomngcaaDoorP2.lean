/- Parts of this work: what the functions come to. -/
import Derived.Test.YtmcdajbfomngcaaDoorP1
import Derived.Test.YtmcdajbfomngcaaDoorWorks06
import Derived.Test.YtmcdajbfomngcaaDoorVmc
import Derived.Test.YtmcdajbfomngcaaDoorRows
import Derived.WalkKit
import Derived.ProofKit
import Derived.OpenShut
import Derived.ShutString
import Derived.SizedLaws
import Derived.LaidMore
import Derived.Stop.Joined
import Derived.LaidHandle
namespace Go.Proofs.YtmcdajbfomngcaaDoor
open Go Go.Vm Go.RowKit
set_option linter.unusedVariables false
set_option maxRecDepth 100000
set_option linter.unusedSectionVars false
variable [Φ:Frz]
def turnTG(OL:List UInt8→Bool)(TF:Int→List UInt8→List UInt8):List V→Option (List (Bool×(V×St)))
 |[.str s,.int .u64 w]=>some [(OL s,(.str (TF w s),[]))]
 |_=>none
noncomputable def CL0(OL:List UInt8→Bool)(TF:Int→List UInt8→List UInt8):Tab:=⟨addT noT 20 (turnTG OL TF),noL,noLks 9⟩
theorem CL0_ok:TabOk3 Tryd.prog (CL0 okL (fun w s=>turnF w 0 s)):=⟨addT_ok noT_ok turn_ok,noL_ok,noLks_ok 9⟩
theorem cl_round0(OL:List UInt8→Bool)(TF:Int→List UInt8→List UInt8)(x:Value)(n:Nat)(cs:List V)(w nu:Int)(fi:List UInt8)(at_ i:Int)(R:Exit→List (Option V)→St→Prop):roundW Tryd.prog (CL0 OL TF) 9 10 (rounds 9) 4 122 [0,1,2,3,4,11,12] [.lst x n cs,.int .u64 w,.int .i64 nu,.str fi,.int .i64 at_,.nilSlice,.int .i64 i] [] R=
  (
 bif decide (i<(↑n:Int))then bif decide (0≤i)&&decide (i<(↑n:Int))then bif (i.toNat*1).blt cs.length then bif isStrV (cs.getD (i.toNat*1) (V.bool false))
 then bif OL (strOfV (cs.getD (i.toNat*1) (V.bool false)))then R Exit.normal [some (V.lst x n cs),some (V.int IntKind.u64 w),some (V.int IntKind.i64 nu),some (V.str
 fi),some (V.int IntKind.i64 at_),some (V.slice 1 0 1 false 0 0),some (V.int IntKind.i64 (IntKind.i64.wrap (i+1)))] [Blk.row [V.str (TF w (strOfV (cs.getD (i.toNat*
 1) (V.bool false))))] 9 1,Blk.row [V.str (TF w (strOfV (cs.getD (i.toNat*1) (V.bool false))))] 9 1]else False else False else False else False else R (Exit.exit 0)
 [some (V.lst x n cs),some (V.int IntKind.u64 w),some (V.int IntKind.i64 nu),some (V.str fi),some (V.int IntKind.i64 at_),some V.nilSlice,some (V.int IntKind.i64 i)]
 []):=by kernel_rfl
theorem cl_round1(OL:List UInt8→Bool)(TF:Int→List UInt8→List UInt8)(x:Value)(n:Nat)(cs:List V)(w nu:Int)(fi:List UInt8)(at_:Int)(k:Nat)(q:List V)(i:Int)(R:Exit→List (Option V)→St→Prop):roundW Tryd.prog (CL0 OL TF) 9 10 (rounds 9) 4 122 [0,1,2,3,4,11,12] [.lst x n cs,.int .u64 w,.int .i64 nu,.str fi,.int .i64 at_,.slice 0 0 k false 0 0,.int .i64 i] [.row q 9 1] R=
  (
 bif decide (i<(↑n:Int))then bif decide (0≤i)&&decide (i<(↑n:Int))then bif (i.toNat*1).blt cs.length then bif isStrV (cs.getD (i.toNat*1) (V.bool false))
 then bif OL (strOfV (cs.getD (i.toNat*1) (V.bool false)))then bif q.length.beq (k*1)then bif (k+1).ble 9223372036854775807&&((k+1)*16).ble 140737488355328
 then R Exit.normal [some (V.lst x n cs),some (V.int IntKind.u64 w),some (V.int IntKind.i64 nu),some (V.str fi),some (V.int IntKind.i64 at_),some (V.slice 2 0 (k+1)
 false 0 0),some (V.int IntKind.i64 (IntKind.i64.wrap (i+1)))] [Blk.dead,Blk.row [V.str (TF w (strOfV (cs.getD (i.toNat*1) (V.bool false))))] 9 1,Blk.row (q++
 [V.str (TF w (strOfV (cs.getD (i.toNat*1) (V.bool false))))]) 9 1]else False else False else False else False else False else False else R (Exit.exit 0) [some (V.lst x
 n cs),some (V.int IntKind.u64 w),some (V.int IntKind.i64 nu),some (V.str fi),some (V.int IntKind.i64 at_),some (V.slice 0 0 k false 0 0),some (V.int IntKind.i64 i)]
 [Blk.row q 9 1]):=by kernel_rfl
structure CL where
 x:Value
 n:Nat
 cs:List V
 w:Int
 nu:Int
 fi:List UInt8
 a:Int
 i:Nat
def clT(w:Int)(l:List (List UInt8)):List (List UInt8):=l.map (turnF w 0)
def clSl:Nat→V
 |0=>.nilSlice
 |k+1=>.slice 0 0 (k+1) false 0 0
def clM(w:Int)(l:List (List UInt8)):Nat→St
 |0=>[]
 |k+1=>[.row (strs (clT w (l.take (k+1)))) 9 1]
def clVs(x:Value)(n:Nat)(cs:List V)(w nu:Int)(fi:List UInt8)(a:Int)(o:V)(i:Int):List V:=[.lst x n cs,.int .u64 w,.int .i64 nu,.str fi,.int .i64 a,o,.int .i64 i]
def clV(x:CL):List V:=clVs x.x x.n x.cs x.w x.nu x.fi x.a (clSl x.i) (x.i:Int)
def clJ(x:CL):St:=clM x.w (x.cs.map strOfV) x.i
def clPre(x:CL):Bool:=okS x.n x.cs&&(Nat.ble x.i x.n&&(Nat.ble x.n 100000&&(x.cs.map strOfV).all okL))
def clMu(x:CL):Nat:=x.n-x.i
def clDec:List (Option V)→St→Option CL
 |[some (.lst x n cs),some (.int .u64 w),some (.int .i64 nu),some (.str fi),some (.int .i64 a),some .nilSlice,some (.int .i64 0)],_=>some ⟨x,n,cs,w,nu,fi,a,0⟩
 |_,_=>none
def clF(w:Int)(cs:List V):List V:=match cs with
 |[]=>[]
 |c::r=>strs (clT w ((c::r).map strOfV))
theorem clF_eq(w:Int)(cs:List V):clF w cs=strs (clT w (cs.map strOfV)):=by cases cs<;>rfl
def clOutG(x:Value)(n:Nat)(cs:List V)(w nu:Int)(fi:List UInt8)(a:Int)(q:List V)(K:Exit→List V→St→Prop):Prop:=
 bif Nat.beq n 0 then K (.exit 0) [.lst x n cs,.int .u64 w,.int .i64 nu,.str fi,.int .i64 a,.nilSlice,.int .i64 (n:Int)] []else K (.exit 0) [.lst x n cs,.int .u64 w,.int .i64 nu,.str fi,.int .i64 a,.slice 0 0 n false 0 0,.int .i64 (n:Int)] [.row q 9 1]
def clOut:Asks CL:=fun x K=>clOutG x.x x.n x.cs x.w x.nu x.fi x.a (clF x.w x.cs) K
theorem cl_fits0(x:Value)(n:Nat)(cs:List V)(w nu:Int)(fi:List UInt8)(a i:Int)(st:St):Fits 0 (clVs x n cs w nu fi a .nilSlice i) [] [some (.lst x n cs),some (.int .u64 w),some (.int .i64 nu),some (.str fi),some (.int .i64 a),some .nilSlice,some (.int .i64 i)] st:=vs_fits (clVs x n cs w nu fi a .nilSlice i) rfl _ rfl st
theorem cl_fits1(x:Value)(n:Nat)(cs:List V)(w nu:Int)(fi:List UInt8)(a:Int)(k:Nat)(q:List (List UInt8))(i:Int)(b:Nat)(st:St)(hb:st[b]?=some (.row (strs q) 9 1)):Fits 0 (clVs x n cs w nu fi a (.slice 0 0 k false 0 0) i) [.row (strs q) 9 1] [some (.lst x n cs),some (.int .u64 w),some (.int .i64 nu),some (.str fi),some (.int .i64 a),some (.slice b 0 k false 0 0),some (.int .i64 i)] st:=
 ⟨[b],[.lst x n cs,.int .u64 w,.int .i64 nu,.str fi,.int .i64 a,.slice b 0 k false 0 0,.int .i64 i],rfl,rfl,FitsM.of ⟨fb (strs_flat q) hb,trivial⟩,by simp,fun i hi=>by omega⟩
theorem cl_roundOk(x:CL)(hx:clPre x=true):roundW Tryd.prog (CL0 okL (fun w s=>turnF w 0 s)) 9 10 (rounds 9) 4 122 [0,1,2,3,4,11,12] (clV x) (clJ x) (RoundOkA 0 clPre clV clJ clMu clOut x):=by
 obtain⟨x,n,cs,w,nu,fi,a,i⟩:=x;unfold clPre at hx;simp only[Bool.and_eq_true]at hx;have hx1:okS n cs=true:=hx.1;have p1:i≤n:=Nat.le_of_ble_eq_true hx.2.1;have p5:n≤100000:=Nat.le_of_ble_eq_true hx.2.2.1;have p4:(cs.map strOfV).all okL=true:=hx.2.2.2;obtain⟨l,rfl,rfl,p2,p3⟩:=okS_spec hx1;rw[strs_strOf]at p4;have jt:∀k,clM w ((strs l).map strOfV) k=clM w l k:=fun k=>by rw[strs_strOf]
 have out:∀K,clOut ⟨x,l.length,strs l,w,nu,fi,a,i⟩ K→clOutG x l.length (strs l) w nu fi a (strs (clT w l)) K:=fun K hK=>by
  have hK:clOutG x l.length (strs l) w nu fi a (clF w (strs l)) K:=hK;rw[clF_eq,strs_strOf]at hK;exact hK
 have next:∀(c:List UInt8) (b:Nat) (st:St),i<l.length→l[i]?=some c→st[b]?=some (.row (strs (clT w (l.take i)++[turnF w 0 c])) 9 1)→RoundOkA 0 clPre clV clJ clMu clOut ⟨x,l.length,strs l,w,nu,fi,a,i⟩ .normal [some (.lst x l.length (strs l)),some (.int .u64 w),some (.int .i64 nu),some (.str fi),some (.int .i64 a),some (.slice b 0 (i+1) false 0 0),some (.int .i64 ((i+1:Nat):Int))] st:=fun c b st hi hc hb=>by
  have ht:clT w (l.take i)++[turnF w 0 c]=clT w (l.take (i+1)):=by
   unfold clT;rw[List.take_add_one,hc,List.map_append];rfl
  rw[ht]at hb;refine⟨⟨x,l.length,strs l,w,nu,fi,a,i+1⟩,?_,?_,by simp only[clMu];omega,fun K hK=>hK⟩
  ·unfold clPre;simp only[Bool.and_eq_true];exact⟨hx1,Nat.ble_eq_true_of_le (show i+1≤l.length by omega),hx.2.2.1,by rw[strs_strOf];exact p4⟩
  ·show Fits 0 (clVs x l.length (strs l) w nu fi a (.slice 0 0 (i+1) false 0 0) ((i+1:Nat):Int)) (clM w ((strs l).map strOfV) (i+1)) _ st;rw[jt];exact cl_fits1 x l.length (strs l) w nu fi a (i+1) _ _ b st hb
 show roundW Tryd.prog (CL0 okL (fun w s=>turnF w 0 s)) 9 10 (rounds 9) 4 122 [0,1,2,3,4,11,12] (clVs x l.length (strs l) w nu fi a (clSl i) (i:Int)) (clM w ((strs l).map strOfV) i) _;rw[jt];cases hd:l.drop i with
 |nil=>
  have hi:=dropA_nil hd p1;cases i with
  |zero=>
   show roundW Tryd.prog (CL0 okL (fun w s=>turnF w 0 s)) 9 10 (rounds 9) 4 122 [0,1,2,3,4,11,12] [.lst x l.length (strs l),.int .u64 w,.int .i64 nu,.str fi,.int .i64 a,.nilSlice,.int .i64 ((0:Nat):Int)] [] _;rw[cl_round0];rw[decide_eq_false (show ¬(((0:Nat):Int)<(l.length:Int)) by omega),cond_false];refine⟨_,_,fun K hK=>?_,cl_fits0 x l.length (strs l) w nu fi a _ []⟩;have hK2:=out K hK;unfold clOutG at hK2;rw[show Nat.beq l.length 0=true by rw[←hi];rfl,cond_true,←hi]at hK2;rw[←hi];exact hK2
  |succ k=>
   show roundW Tryd.prog (CL0 okL (fun w s=>turnF w 0 s)) 9 10 (rounds 9) 4 122 [0,1,2,3,4,11,12] [.lst x l.length (strs l),.int .u64 w,.int .i64 nu,.str fi,.int .i64 a,.slice 0 0 (k+1) false 0 0,.int .i64 ((k+1:Nat):Int)] [.row (strs (clT w (l.take (k+1)))) 9 1] _;rw[cl_round1];rw[decide_eq_false (show ¬(((k+1:Nat):Int)<(l.length:Int)) by omega),cond_false];refine⟨_,_,fun K hK=>?_,cl_fits1 x l.length (strs l) w nu fi a (k+1) _ _ 0 _ rfl⟩;have hK2:=out K hK;unfold clOutG at hK2;have nb:Nat.beq l.length 0=false:=by rw[←hi];rfl
   rw[nb,cond_false]at hK2;have e:clT w (l.take (k+1))=clT w l:=by rw[hi,List.take_length]
   rw[e,hi];exact hK2
 |cons c r=>
  obtain⟨e1,e2,e3⟩:=dropA_cons hd;obtain⟨e4,e5⟩:=strs_at hd;have hk:okL c=true:=List.all_eq_true.1 p4 c (List.mem_of_mem_drop (by rw[hd];simp));have q1:decide ((i:Int)<(l.length:Int))=true:=decide_eq_true (by omega);have q2:decide ((0:Int)≤(i:Int))=true:=decide_eq_true (by omega);have w1:IntKind.i64.wrap ((i:Int)+1)=((i+1:Nat):Int):=by rw[IntWalk.i64_in _ ⟨by omega,by omega⟩];omega
  cases i with
  |zero=>
   show roundW Tryd.prog (CL0 okL (fun w s=>turnF w 0 s)) 9 10 (rounds 9) 4 122 [0,1,2,3,4,11,12] [.lst x l.length (strs l),.int .u64 w,.int .i64 nu,.str fi,.int .i64 a,.nilSlice,.int .i64 ((0:Nat):Int)] [] _;rw[cl_round0];simp only[q1,q2,Int.toNat_natCast,e4,e5,isStrV,strOfV,hk,cond_true,Bool.and_self,w1];exact next c 1 _ e3 e1 rfl
  |succ k=>
   show roundW Tryd.prog (CL0 okL (fun w s=>turnF w 0 s)) 9 10 (rounds 9) 4 122 [0,1,2,3,4,11,12] [.lst x l.length (strs l),.int .u64 w,.int .i64 nu,.str fi,.int .i64 a,.slice 0 0 (k+1) false 0 0,.int .i64 ((k+1:Nat):Int)] [.row (strs (clT w (l.take (k+1)))) 9 1] _;rw[cl_round1];have hl:(strs (clT w (l.take (k+1)))).length=k+1:=by rw[strs_len];unfold clT;rw[List.length_map,List.length_take];omega
   have c1:(strs (clT w (l.take (k+1)))).length.beq ((k+1)*1)=true:=by rw[hl,Nat.mul_one];exact Nat.beq_refl _
   have c2:((k+1+1).ble 9223372036854775807&&((k+1+1)*16).ble 140737488355328)=true:=by rw[Nat.ble_eq_true_of_le (by omega),Nat.ble_eq_true_of_le (by omega)];rfl
   simp only[q1,q2,Int.toNat_natCast,e4,e5,isStrV,strOfV,hk,cond_true,Bool.and_self,w1,c1,c2];refine next c 2 _ e3 e1 ?_
   rw[←strs_app];rfl
noncomputable def lkCL:Nat→Trans→Trans:=withLoop 122 (loopA 0 (szOf Tryd.prog 4) [0,1,2,3,4,11,12] clDec clPre clV clJ clOut) (rounds 9)
theorem lkCL_ok:FnLoopsW Tryd.prog 0 lkCL 4:=by
 unfold lkCL;exact fnLoopW (fnRoundsW 9 0 4) (by kernel_rfl) fun f st Q h=>loopA_ok (P:=Tryd.prog) (T:=CL0 okL (fun w s=>turnF w 0 s)) (k:=0) (lim:=9) (n:=10) (g:=4) (p0:=122) (lk:=rounds 9) mixed CL0_ok (roundsW 9 _ _) clMu cl_roundOk h
noncomputable def CLT(LOK LB OK:V→St→Bool)(LV:V→St→CP)(OFK:V→St→Bool)(OFV:Int→V→St→CP):Tab:=⟨addP noT 18 worksF,addS (addS (addS noL 19 (loGV LOK LB)) 21 (olGV OK LV)) 22 (ofGV OFK OFV),addLk (noLks 9) 4 0 lkCL⟩
theorem CLT_ok:TabOk3 Tryd.prog (CLT loOK loB olOK olV ofOK ofV):=⟨addP_ok noT_ok worksF_ok,addS_ok (addS_ok (addS_ok noL_ok loG_ok) olGV_ok) ofGV_ok,addLk_ok (noLks_ok 9) lkCL_ok⟩
@[reducible] def lzR:LstFlag:=⟨false,false,true⟩
theorem cl_lawA(LOK LB OK:V→St→Bool)(LV:V→St→CP)(OFK:V→St→Bool)(OFV:Int→V→St→CP)(x:Value)(w nu:Int)(fi:List UInt8)(a:Int)(R:V→Prop):runW (Z:=lzR) Tryd.prog (CLT LOK LB OK LV OFK OFV) 9 10 4 [.lst x 0 [],.int .u64 w,.int .i64 nu,.str fi,.int .i64 a] R=
  (
 bif LOK (V.lst x 0 []) []then bif LB (V.lst x 0 []) []then R (V.bool true)else bif decide ((↑fi.length:Int)>5000)then R (V.bool true)else Fits 0 [V.lst x 0 [],
 V.int IntKind.u64 w,V.int IntKind.i64 nu,V.str fi,V.int IntKind.i64 a,V.nilSlice,V.int IntKind.i64 0] [] [some (V.lst x 0 []),some (V.int IntKind.u64 w),some
 (V.int IntKind.i64 nu),some (V.str fi),some (V.int IntKind.i64 a),some V.nilSlice,some (V.int IntKind.i64 0)] []∧bif OK (V.lst x 0 []) []then bif OK V.nilSlice []
 then bif (LV V.nilSlice []).st==(LV (V.lst x 0 []) []).st then bif (LV V.nilSlice []).pi==(LV (V.lst x 0 []) []).pi then bif (LV V.nilSlice []).rq==(LV (V.lst x 0
 []) []).rq then bif (LV V.nilSlice []).ds==(LV (V.lst x 0 []) []).ds then bif (LV V.nilSlice []).eb==(LV (V.lst x 0 []) []).eb then bif (LV V.nilSlice []).si==(LV
 (V.lst x 0 []) []).si then bif (LV V.nilSlice []).mo==(LV (V.lst x 0 []) []).mo then bif OFK (V.slice 1 0 1 true 1 0) [Blk.ro false [V.bool (LV (V.lst x 0 []) []).st,
 V.bool (LV (V.lst x 0 []) []).pi,V.bool (LV (V.lst x 0 []) []).rq,V.bool (LV (V.lst x 0 []) []).ds,V.bool (LV (V.lst x 0 []) []).eb,V.bool (LV (V.lst x 0 []) []).si,
 V.int IntKind.i64 (LV (V.lst x 0 []) []).mo],Blk.ro false [V.str fi]]then bif (OFV 250 (V.slice 1 0 1 true 1 0) [Blk.ro false [V.bool (LV (V.lst x 0 []) []).st,V.bool
 (LV (V.lst x 0 []) []).pi,V.bool (LV (V.lst x 0 []) []).rq,V.bool (LV (V.lst x 0 []) []).ds,V.bool (LV (V.lst x 0 []) []).eb,V.bool (LV (V.lst x 0 []) []).si,V.int
 IntKind.i64 (LV (V.lst x 0 []) []).mo],Blk.ro false [V.str fi]]).st==(LV (V.lst x 0 []) []).st then bif (OFV 250 (V.slice 1 0 1 true 1 0) [Blk.ro false [V.bool (LV
 (V.lst x 0 []) []).st,V.bool (LV (V.lst x 0 []) []).pi,V.bool (LV (V.lst x 0 []) []).rq,V.bool (LV (V.lst x 0 []) []).ds,V.bool (LV (V.lst x 0 []) []).eb,V.bool (LV
 (V.lst x 0 []) []).si,V.int IntKind.i64 (LV (V.lst x 0 []) []).mo],Blk.ro false [V.str fi]]).pi==(LV (V.lst x 0 []) []).pi then bif (OFV 250 (V.slice 1 0 1 true 1 0)
 [Blk.ro false [V.bool (LV (V.lst x 0 []) []).st,V.bool (LV (V.lst x 0 []) []).pi,V.bool (LV (V.lst x 0 []) []).rq,V.bool (LV (V.lst x 0 []) []).ds,V.bool (LV (V.lst x
 0 []) []).eb,V.bool (LV (V.lst x 0 []) []).si,V.int IntKind.i64 (LV (V.lst x 0 []) []).mo],Blk.ro false [V.str fi]]).rq==(LV (V.lst x 0 []) []).rq then bif (OFV 250
 (V.slice 1 0 1 true 1 0) [Blk.ro false [V.bool (LV (V.lst x 0 []) []).st,V.bool (LV (V.lst x 0 []) []).pi,V.bool (LV (V.lst x 0 []) []).rq,V.bool (LV (V.lst x 0 [])
 []).ds,V.bool (LV (V.lst x 0 []) []).eb,V.bool (LV (V.lst x 0 []) []).si,V.int IntKind.i64 (LV (V.lst x 0 []) []).mo],Blk.ro false [V.str fi]]).ds==(LV (V.lst x 0
 []) []).ds then bif (OFV 250 (V.slice 1 0 1 true 1 0) [Blk.ro false [V.bool (LV (V.lst x 0 []) []).st,V.bool (LV (V.lst x 0 []) []).pi,V.bool (LV (V.lst x 0 []) []).rq,
 V.bool (LV (V.lst x 0 []) []).ds,V.bool (LV (V.lst x 0 []) []).eb,V.bool (LV (V.lst x 0 []) []).si,V.int IntKind.i64 (LV (V.lst x 0 []) []).mo],Blk.ro false [V.str
 fi]]).eb==(LV (V.lst x 0 []) []).eb then bif (OFV 250 (V.slice 1 0 1 true 1 0) [Blk.ro false [V.bool (LV (V.lst x 0 []) []).st,V.bool (LV (V.lst x 0 []) []).pi,V.bool
 (LV (V.lst x 0 []) []).rq,V.bool (LV (V.lst x 0 []) []).ds,V.bool (LV (V.lst x 0 []) []).eb,V.bool (LV (V.lst x 0 []) []).si,V.int IntKind.i64 (LV (V.lst x 0 [])
 []).mo],Blk.ro false [V.str fi]]).si==(LV (V.lst x 0 []) []).si then bif (OFV 250 (V.slice 1 0 1 true 1 0) [Blk.ro false [V.bool (LV (V.lst x 0 []) []).st,V.bool (LV
 (V.lst x 0 []) []).pi,V.bool (LV (V.lst x 0 []) []).rq,V.bool (LV (V.lst x 0 []) []).ds,V.bool (LV (V.lst x 0 []) []).eb,V.bool (LV (V.lst x 0 []) []).si,V.int
 IntKind.i64 (LV (V.lst x 0 []) []).mo],Blk.ro false [V.str fi]]).mo==(LV (V.lst x 0 []) []).mo then bif nu !=250 then bif OFK (V.slice 2 0 1 false 0 0) [Blk.row
 [V.bool (LV (V.lst x 0 []) []).st,V.bool (LV (V.lst x 0 []) []).pi,V.bool (LV (V.lst x 0 []) []).rq,V.bool (LV (V.lst x 0 []) []).ds,V.bool (LV (V.lst x 0 []) []).eb,
 V.bool (LV (V.lst x 0 []) []).si,V.int IntKind.i64 (LV (V.lst x 0 []) []).mo] 34 7,Blk.row [V.str fi] 9 1,Blk.row [V.str fi] 9 1]then bif (OFV nu (V.slice 2 0 1 false
 0 0) [Blk.row [V.bool (LV (V.lst x 0 []) []).st,V.bool (LV (V.lst x 0 []) []).pi,V.bool (LV (V.lst x 0 []) []).rq,V.bool (LV (V.lst x 0 []) []).ds,V.bool (LV (V.lst x
 0 []) []).eb,V.bool (LV (V.lst x 0 []) []).si,V.int IntKind.i64 (LV (V.lst x 0 []) []).mo] 34 7,Blk.row [V.str fi] 9 1,Blk.row [V.str fi] 9 1]).st==false then bif
 (OFV nu (V.slice 2 0 1 false 0 0) [Blk.row [V.bool (LV (V.lst x 0 []) []).st,V.bool (LV (V.lst x 0 []) []).pi,V.bool (LV (V.lst x 0 []) []).rq,V.bool (LV (V.lst x 0
 []) []).ds,V.bool (LV (V.lst x 0 []) []).eb,V.bool (LV (V.lst x 0 []) []).si,V.int IntKind.i64 (LV (V.lst x 0 []) []).mo] 34 7,Blk.row [V.str fi] 9 1,Blk.row [V.str
 fi] 9 1]).pi==false then bif (OFV nu (V.slice 2 0 1 false 0 0) [Blk.row [V.bool (LV (V.lst x 0 []) []).st,V.bool (LV (V.lst x 0 []) []).pi,V.bool (LV (V.lst x 0 [])
 []).rq,V.bool (LV (V.lst x 0 []) []).ds,V.bool (LV (V.lst x 0 []) []).eb,V.bool (LV (V.lst x 0 []) []).si,V.int IntKind.i64 (LV (V.lst x 0 []) []).mo] 34 7,Blk.row
 [V.str fi] 9 1,Blk.row [V.str fi] 9 1]).rq==false then bif (OFV nu (V.slice 2 0 1 false 0 0) [Blk.row [V.bool (LV (V.lst x 0 []) []).st,V.bool (LV (V.lst x 0 [])
 []).pi,V.bool (LV (V.lst x 0 []) []).rq,V.bool (LV (V.lst x 0 []) []).ds,V.bool (LV (V.lst x 0 []) []).eb,V.bool (LV (V.lst x 0 []) []).si,V.int IntKind.i64 (LV
 (V.lst x 0 []) []).mo] 34 7,Blk.row [V.str fi] 9 1,Blk.row [V.str fi] 9 1]).ds==false then bif (OFV nu (V.slice 2 0 1 false 0 0) [Blk.row [V.bool (LV (V.lst x 0 [])
 []).st,V.bool (LV (V.lst x 0 []) []).pi,V.bool (LV (V.lst x 0 []) []).rq,V.bool (LV (V.lst x 0 []) []).ds,V.bool (LV (V.lst x 0 []) []).eb,V.bool (LV (V.lst x 0 [])
 []).si,V.int IntKind.i64 (LV (V.lst x 0 []) []).mo] 34 7,Blk.row [V.str fi] 9 1,Blk.row [V.str fi] 9 1]).eb==false then bif (OFV nu (V.slice 2 0 1 false 0 0)
 [Blk.row [V.bool (LV (V.lst x 0 []) []).st,V.bool (LV (V.lst x 0 []) []).pi,V.bool (LV (V.lst x 0 []) []).rq,V.bool (LV (V.lst x 0 []) []).ds,V.bool (LV (V.lst x 0
 []) []).eb,V.bool (LV (V.lst x 0 []) []).si,V.int IntKind.i64 (LV (V.lst x 0 []) []).mo] 34 7,Blk.row [V.str fi] 9 1,Blk.row [V.str fi] 9 1]).si==false then bif
 (OFV nu (V.slice 2 0 1 false 0 0) [Blk.row [V.bool (LV (V.lst x 0 []) []).st,V.bool (LV (V.lst x 0 []) []).pi,V.bool (LV (V.lst x 0 []) []).rq,V.bool (LV (V.lst x 0
 []) []).ds,V.bool (LV (V.lst x 0 []) []).eb,V.bool (LV (V.lst x 0 []) []).si,V.int IntKind.i64 (LV (V.lst x 0 []) []).mo] 34 7,Blk.row [V.str fi] 9 1,Blk.row [V.str
 fi] 9 1]).mo==0 then ∀(c:Int),c=(IntKind.u64.wrap a).tmod 1→bif OK (V.slice 3 0 1 false 0 0) [Blk.row [V.bool (LV (V.lst x 0 []) []).st,V.bool (LV (V.lst x 0
 []) []).pi,V.bool (LV (V.lst x 0 []) []).rq,V.bool (LV (V.lst x 0 []) []).ds,V.bool (LV (V.lst x 0 []) []).eb,V.bool (LV (V.lst x 0 []) []).si,V.int IntKind.i64 (LV
 (V.lst x 0 []) []).mo] 34 7,Blk.row [V.str fi] 9 1,Blk.row [V.str fi] 9 1,Blk.row [V.str fi] 9 1]then bif (LV (V.slice 3 0 1 false 0 0) [Blk.row [V.bool (LV (V.lst x
 0 []) []).st,V.bool (LV (V.lst x 0 []) []).pi,V.bool (LV (V.lst x 0 []) []).rq,V.bool (LV (V.lst x 0 []) []).ds,V.bool (LV (V.lst x 0 []) []).eb,V.bool (LV (V.lst x
 0 []) []).si,V.int IntKind.i64 (LV (V.lst x 0 []) []).mo] 34 7,Blk.row [V.str fi] 9 1,Blk.row [V.str fi] 9 1,Blk.row [V.str fi] 9 1]).st==false then bif (LV
 (V.slice 3 0 1 false 0 0) [Blk.row [V.bool (LV (V.lst x 0 []) []).st,V.bool (LV (V.lst x 0 []) []).pi,V.bool (LV (V.lst x 0 []) []).rq,V.bool (LV (V.lst x 0 [])
 []).ds,V.bool (LV (V.lst x 0 []) []).eb,V.bool (LV (V.lst x 0 []) []).si,V.int IntKind.i64 (LV (V.lst x 0 []) []).mo] 34 7,Blk.row [V.str fi] 9 1,Blk.row [V.str fi]
 9 1,Blk.row [V.str fi] 9 1]).pi==false then bif (LV (V.slice 3 0 1 false 0 0) [Blk.row [V.bool (LV (V.lst x 0 []) []).st,V.bool (LV (V.lst x 0 []) []).pi,V.bool (LV
 (V.lst x 0 []) []).rq,V.bool (LV (V.lst x 0 []) []).ds,V.bool (LV (V.lst x 0 []) []).eb,V.bool (LV (V.lst x 0 []) []).si,V.int IntKind.i64 (LV (V.lst x 0 []) []).mo]
 34 7,Blk.row [V.str fi] 9 1,Blk.row [V.str fi] 9 1,Blk.row [V.str fi] 9 1]).rq==false then bif (LV (V.slice 3 0 1 false 0 0) [Blk.row [V.bool (LV (V.lst x 0 [])
 []).st,V.bool (LV (V.lst x 0 []) []).pi,V.bool (LV (V.lst x 0 []) []).rq,V.bool (LV (V.lst x 0 []) []).ds,V.bool (LV (V.lst x 0 []) []).eb,V.bool (LV (V.lst x 0 [])
 []).si,V.int IntKind.i64 (LV (V.lst x 0 []) []).mo] 34 7,Blk.row [V.str fi] 9 1,Blk.row [V.str fi] 9 1,Blk.row [V.str fi] 9 1]).ds==false then bif (LV (V.slice 3 0
 1 false 0 0) [Blk.row [V.bool (LV (V.lst x 0 []) []).st,V.bool (LV (V.lst x 0 []) []).pi,V.bool (LV (V.lst x 0 []) []).rq,V.bool (LV (V.lst x 0 []) []).ds,V.bool (LV
 (V.lst x 0 []) []).eb,V.bool (LV (V.lst x 0 []) []).si,V.int IntKind.i64 (LV (V.lst x 0 []) []).mo] 34 7,Blk.row [V.str fi] 9 1,Blk.row [V.str fi] 9 1,Blk.row [V.str
 fi] 9 1]).eb==false then bif (LV (V.slice 3 0 1 false 0 0) [Blk.row [V.bool (LV (V.lst x 0 []) []).st,V.bool (LV (V.lst x 0 []) []).pi,V.bool (LV (V.lst x 0 [])
 []).rq,V.bool (LV (V.lst x 0 []) []).ds,V.bool (LV (V.lst x 0 []) []).eb,V.bool (LV (V.lst x 0 []) []).si,V.int IntKind.i64 (LV (V.lst x 0 []) []).mo] 34 7,Blk.row
 [V.str fi] 9 1,Blk.row [V.str fi] 9 1,Blk.row [V.str fi] 9 1]).si==false then bif (LV (V.slice 3 0 1 false 0 0) [Blk.row [V.bool (LV (V.lst x 0 []) []).st,V.bool (LV
 (V.lst x 0 []) []).pi,V.bool (LV (V.lst x 0 []) []).rq,V.bool (LV (V.lst x 0 []) []).ds,V.bool (LV (V.lst x 0 []) []).eb,V.bool (LV (V.lst x 0 []) []).si,V.int
 IntKind.i64 (LV (V.lst x 0 []) []).mo] 34 7,Blk.row [V.str fi] 9 1,Blk.row [V.str fi] 9 1,Blk.row [V.str fi] 9 1]).mo==0 then bif decide (0≤IntKind.i64.wrap c)
 then bif true&&(IntKind.i64.wrap c).toNat.ble 0 then bif ((IntKind.i64.wrap c).toNat-0).beq 0 then bif ((IntKind.i64.wrap c).toNat-0).beq 0 then bif decide (0≤
 IntKind.i64.wrap c)then bif (IntKind.i64.wrap c).toNat.ble 0&&true then bif (0-(IntKind.i64.wrap c).toNat).beq 0 then bif (0-(IntKind.i64.wrap c).toNat).beq 0 then
 bif OK (V.slice 6 0 1 false 0 0) [Blk.ro false [V.bool (LV (V.lst x 0 []) []).st,V.bool (LV (V.lst x 0 []) []).pi,V.bool (LV (V.lst x 0 []) []).rq,V.bool (LV (V.lst x
 0 []) []).ds,V.bool (LV (V.lst x 0 []) []).eb,V.bool (LV (V.lst x 0 []) []).si,V.int IntKind.i64 (LV (V.lst x 0 []) []).mo],Blk.ro false [V.str fi],Blk.ro false
 [V.str fi],Blk.ro false [V.str fi],Blk.dead,Blk.ro false [V.str fi],Blk.ro false [V.str fi]]then bif (LV (V.slice 6 0 1 false 0 0) [Blk.ro false [V.bool (LV (V.lst x
 0 []) []).st,V.bool (LV (V.lst x 0 []) []).pi,V.bool (LV (V.lst x 0 []) []).rq,V.bool (LV (V.lst x 0 []) []).ds,V.bool (LV (V.lst x 0 []) []).eb,V.bool (LV (V.lst x
 0 []) []).si,V.int IntKind.i64 (LV (V.lst x 0 []) []).mo],Blk.ro false [V.str fi],Blk.ro false [V.str fi],Blk.ro false [V.str fi],Blk.dead,Blk.ro false [V.str fi],
 Blk.ro false [V.str fi]]).st==(LV (V.lst x 0 []) []).st then bif (LV (V.slice 6 0 1 false 0 0) [Blk.ro false [V.bool (LV (V.lst x 0 []) []).st,V.bool (LV (V.lst x 0
 []) []).pi,V.bool (LV (V.lst x 0 []) []).rq,V.bool (LV (V.lst x 0 []) []).ds,V.bool (LV (V.lst x 0 []) []).eb,V.bool (LV (V.lst x 0 []) []).si,V.int IntKind.i64 (LV
 (V.lst x 0 []) []).mo],Blk.ro false [V.str fi],Blk.ro false [V.str fi],Blk.ro false [V.str fi],Blk.dead,Blk.ro false [V.str fi],Blk.ro false [V.str fi]]).pi==(LV
 (V.lst x 0 []) []).pi then bif (LV (V.slice 6 0 1 false 0 0) [Blk.ro false [V.bool (LV (V.lst x 0 []) []).st,V.bool (LV (V.lst x 0 []) []).pi,V.bool (LV (V.lst x 0 [])
 []).rq,V.bool (LV (V.lst x 0 []) []).ds,V.bool (LV (V.lst x 0 []) []).eb,V.bool (LV (V.lst x 0 []) []).si,V.int IntKind.i64 (LV (V.lst x 0 []) []).mo],Blk.ro false
 [V.str fi],Blk.ro false [V.str fi],Blk.ro false [V.str fi],Blk.dead,Blk.ro false [V.str fi],Blk.ro false [V.str fi]]).rq==(LV (V.lst x 0 []) []).rq then bif (LV
 (V.slice 6 0 1 false 0 0) [Blk.ro false [V.bool (LV (V.lst x 0 []) []).st,V.bool (LV (V.lst x 0 []) []).pi,V.bool (LV (V.lst x 0 []) []).rq,V.bool (LV (V.lst x 0 [])
 []).ds,V.bool (LV (V.lst x 0 []) []).eb,V.bool (LV (V.lst x 0 []) []).si,V.int IntKind.i64 (LV (V.lst x 0 []) []).mo],Blk.ro false [V.str fi],Blk.ro false [V.str
 fi],Blk.ro false [V.str fi],Blk.dead,Blk.ro false [V.str fi],Blk.ro false [V.str fi]]).ds==(LV (V.lst x 0 []) []).ds then bif (LV (V.slice 6 0 1 false 0 0) [Blk.ro
 false [V.bool (LV (V.lst x 0 []) []).st,V.bool (LV (V.lst x 0 []) []).pi,V.bool (LV (V.lst x 0 []) []).rq,V.bool (LV (V.lst x 0 []) []).ds,V.bool (LV (V.lst x 0 [])
 []).eb,V.bool (LV (V.lst x 0 []) []).si,V.int IntKind.i64 (LV (V.lst x 0 []) []).mo],Blk.ro false [V.str fi],Blk.ro false [V.str fi],Blk.ro false [V.str fi],
 Blk.dead,Blk.ro false [V.str fi],Blk.ro false [V.str fi]]).eb==(LV (V.lst x 0 []) []).eb then bif (LV (V.slice 6 0 1 false 0 0) [Blk.ro false [V.bool (LV (V.lst x 0
 []) []).st,V.bool (LV (V.lst x 0 []) []).pi,V.bool (LV (V.lst x 0 []) []).rq,V.bool (LV (V.lst x 0 []) []).ds,V.bool (LV (V.lst x 0 []) []).eb,V.bool (LV (V.lst x 0
 []) []).si,V.int IntKind.i64 (LV (V.lst x 0 []) []).mo],Blk.ro false [V.str fi],Blk.ro false [V.str fi],Blk.ro false [V.str fi],Blk.dead,Blk.ro false [V.str fi],
 Blk.ro false [V.str fi]]).si==(LV (V.lst x 0 []) []).si then bif (LV (V.slice 6 0 1 false 0 0) [Blk.ro false [V.bool (LV (V.lst x 0 []) []).st,V.bool (LV (V.lst x 0
 []) []).pi,V.bool (LV (V.lst x 0 []) []).rq,V.bool (LV (V.lst x 0 []) []).ds,V.bool (LV (V.lst x 0 []) []).eb,V.bool (LV (V.lst x 0 []) []).si,V.int IntKind.i64 (LV
 (V.lst x 0 []) []).mo],Blk.ro false [V.str fi],Blk.ro false [V.str fi],Blk.ro false [V.str fi],Blk.dead,Blk.ro false [V.str fi],Blk.ro false [V.str fi]]).mo==(LV
 (V.lst x 0 []) []).mo then R (V.bool true)else R (V.bool false)else R (V.bool false)else R (V.bool false)else R (V.bool false)else R (V.bool false)else R (V.bool
 false)else R (V.bool false)else False else False else bif (List.take ((0-(IntKind.i64.wrap c).toNat)*1) (List.drop ((IntKind.i64.wrap c).toNat*1) ([]:List
 V))).length.beq ((0-(IntKind.i64.wrap c).toNat)*1)&&(List.take ((0-(IntKind.i64.wrap c).toNat)*1) (List.drop ((IntKind.i64.wrap c).toNat*1) ([]:List
 V))).all V.one then bif (1+(0-(IntKind.i64.wrap c).toNat)).ble 9223372036854775807&&((1+(0-(IntKind.i64.wrap c).toNat))*16).ble 140737488355328 then bif flatL
 (V.str fi::(List.take ((0-(IntKind.i64.wrap c).toNat)*1) (List.drop ((IntKind.i64.wrap c).toNat*1) ([]:List V))))&&true then bif OK (V.slice 7 0 (1+(0-
 (IntKind.i64.wrap c).toNat)) false 0 0) [Blk.ro false [V.bool (LV (V.lst x 0 []) []).st,V.bool (LV (V.lst x 0 []) []).pi,V.bool (LV (V.lst x 0 []) []).rq,V.bool (LV
 (V.lst x 0 []) []).ds,V.bool (LV (V.lst x 0 []) []).eb,V.bool (LV (V.lst x 0 []) []).si,V.int IntKind.i64 (LV (V.lst x 0 []) []).mo],Blk.ro false [V.str fi],Blk.ro
 false [V.str fi],Blk.ro false [V.str fi],Blk.dead,Blk.ro false [V.str fi],Blk.dead,Blk.ro false (V.str fi::(List.take ((0-(IntKind.i64.wrap c).toNat)*1)
 (List.drop ((IntKind.i64.wrap c).toNat*1) ([]:List V))))]then bif (LV (V.slice 7 0 (1+(0-(IntKind.i64.wrap c).toNat)) false 0 0) [Blk.ro false [V.bool (LV (V.lst
 x 0 []) []).st,V.bool (LV (V.lst x 0 []) []).pi,V.bool (LV (V.lst x 0 []) []).rq,V.bool (LV (V.lst x 0 []) []).ds,V.bool (LV (V.lst x 0 []) []).eb,V.bool (LV (V.lst
 x 0 []) []).si,V.int IntKind.i64 (LV (V.lst x 0 []) []).mo],Blk.ro false [V.str fi],Blk.ro false [V.str fi],Blk.ro false [V.str fi],Blk.dead,Blk.ro false [V.str
 fi],Blk.dead,Blk.ro false (V.str fi::(List.take ((0-(IntKind.i64.wrap c).toNat)*1) (List.drop ((IntKind.i64.wrap c).toNat*1) ([]:List V))))]).st==(LV (V.lst
 x 0 []) []).st then bif (LV (V.slice 7 0 (1+(0-(IntKind.i64.wrap c).toNat)) false 0 0) [Blk.ro false [V.bool (LV (V.lst x 0 []) []).st,V.bool (LV (V.lst x 0 [])
 []).pi,V.bool (LV (V.lst x 0 []) []).rq,V.bool (LV (V.lst x 0 []) []).ds,V.bool (LV (V.lst x 0 []) []).eb,V.bool (LV (V.lst x 0 []) []).si,V.int IntKind.i64 (LV
 (V.lst x 0 []) []).mo],Blk.ro false [V.str fi],Blk.ro false [V.str fi],Blk.ro false [V.str fi],Blk.dead,Blk.ro false [V.str fi],Blk.dead,Blk.ro false (V.str fi::
 (List.take ((0-(IntKind.i64.wrap c).toNat)*1) (List.drop ((IntKind.i64.wrap c).toNat*1) ([]:List V))))]).pi==(LV (V.lst x 0 []) []).pi then bif (LV (V.slice 7 0
 (1+(0-(IntKind.i64.wrap c).toNat)) false 0 0) [Blk.ro false [V.bool (LV (V.lst x 0 []) []).st,V.bool (LV (V.lst x 0 []) []).pi,V.bool (LV (V.lst x 0 []) []).rq,
 V.bool (LV (V.lst x 0 []) []).ds,V.bool (LV (V.lst x 0 []) []).eb,V.bool (LV (V.lst x 0 []) []).si,V.int IntKind.i64 (LV (V.lst x 0 []) []).mo],Blk.ro false [V.str
 fi],Blk.ro false [V.str fi],Blk.ro false [V.str fi],Blk.dead,Blk.ro false [V.str fi],Blk.dead,Blk.ro false (V.str fi::(List.take ((0-(IntKind.i64.wrap c).toNat)
 *1) (List.drop ((IntKind.i64.wrap c).toNat*1) ([]:List V))))]).rq==(LV (V.lst x 0 []) []).rq then bif (LV (V.slice 7 0 (1+(0-(IntKind.i64.wrap c).toNat)) false
 0 0) [Blk.ro false [V.bool (LV (V.lst x 0 []) []).st,V.bool (LV (V.lst x 0 []) []).pi,V.bool (LV (V.lst x 0 []) []).rq,V.bool (LV (V.lst x 0 []) []).ds,V.bool (LV
 (V.lst x 0 []) []).eb,V.bool (LV (V.lst x 0 []) []).si,V.int IntKind.i64 (LV (V.lst x 0 []) []).mo],Blk.ro false [V.str fi],Blk.ro false [V.str fi],Blk.ro false
 [V.str fi],Blk.dead,Blk.ro false [V.str fi],Blk.dead,Blk.ro false (V.str fi::(List.take ((0-(IntKind.i64.wrap c).toNat)*1) (List.drop ((IntKind.i64.wrap
 c).toNat*1) ([]:List V))))]).ds==(LV (V.lst x 0 []) []).ds then bif (LV (V.slice 7 0 (1+(0-(IntKind.i64.wrap c).toNat)) false 0 0) [Blk.ro false [V.bool (LV
 (V.lst x 0 []) []).st,V.bool (LV (V.lst x 0 []) []).pi,V.bool (LV (V.lst x 0 []) []).rq,V.bool (LV (V.lst x 0 []) []).ds,V.bool (LV (V.lst x 0 []) []).eb,V.bool (LV
 (V.lst x 0 []) []).si,V.int IntKind.i64 (LV (V.lst x 0 []) []).mo],Blk.ro false [V.str fi],Blk.ro false [V.str fi],Blk.ro false [V.str fi],Blk.dead,Blk.ro false
 [V.str fi],Blk.dead,Blk.ro false (V.str fi::(List.take ((0-(IntKind.i64.wrap c).toNat)*1) (List.drop ((IntKind.i64.wrap c).toNat*1) ([]:List V))))]).eb==(LV
 (V.lst x 0 []) []).eb then bif (LV (V.slice 7 0 (1+(0-(IntKind.i64.wrap c).toNat)) false 0 0) [Blk.ro false [V.bool (LV (V.lst x 0 []) []).st,V.bool (LV (V.lst x 0
 []) []).pi,V.bool (LV (V.lst x 0 []) []).rq,V.bool (LV (V.lst x 0 []) []).ds,V.bool (LV (V.lst x 0 []) []).eb,V.bool (LV (V.lst x 0 []) []).si,V.int IntKind.i64 (LV
 (V.lst x 0 []) []).mo],Blk.ro false [V.str fi],Blk.ro false [V.str fi],Blk.ro false [V.str fi],Blk.dead,Blk.ro false [V.str fi],Blk.dead,Blk.ro false (V.str fi::
 (List.take ((0-(IntKind.i64.wrap c).toNat)*1) (List.drop ((IntKind.i64.wrap c).toNat*1) ([]:List V))))]).si==(LV (V.lst x 0 []) []).si then bif (LV (V.slice 7 0
 (1+(0-(IntKind.i64.wrap c).toNat)) false 0 0) [Blk.ro false [V.bool (LV (V.lst x 0 []) []).st,V.bool (LV (V.lst x 0 []) []).pi,V.bool (LV (V.lst x 0 []) []).rq,
 V.bool (LV (V.lst x 0 []) []).ds,V.bool (LV (V.lst x 0 []) []).eb,V.bool (LV (V.lst x 0 []) []).si,V.int IntKind.i64 (LV (V.lst x 0 []) []).mo],Blk.ro false [V.str
 fi],Blk.ro false [V.str fi],Blk.ro false [V.str fi],Blk.dead,Blk.ro false [V.str fi],Blk.dead,Blk.ro false (V.str fi::(List.take ((0-(IntKind.i64.wrap c).toNat)
 *1) (List.drop ((IntKind.i64.wrap c).toNat*1) ([]:List V))))]).mo==(LV (V.lst x 0 []) []).mo then R (V.bool true)else R (V.bool false)else R (V.bool false)else
 R (V.bool false)else R (V.bool false)else R (V.bool false)else R (V.bool false)else R (V.bool false)else False else False else False else False else False else False
 else False else bif (List.take (((IntKind.i64.wrap c).toNat-0)*1) ([]:List V)).length.beq (((IntKind.i64.wrap c).toNat-0)*1)&&(List.take (((IntKind.i64.wrap
 c).toNat-0)*1) ([]:List V)).all V.one then bif (0+((IntKind.i64.wrap c).toNat-0)).ble 9223372036854775807&&((0+((IntKind.i64.wrap c).toNat-0))*16).ble
 140737488355328 then bif flatL ([]++List.take (((IntKind.i64.wrap c).toNat-0)*1) ([]:List V))&&true then bif ([]++List.take (((IntKind.i64.wrap c).toNat-0)
 *1) ([]:List V)).length.beq ((0+((IntKind.i64.wrap c).toNat-0))*1)then bif (0+((IntKind.i64.wrap c).toNat-0)+1).ble 9223372036854775807&&((0+
 ((IntKind.i64.wrap c).toNat-0)+1)*16).ble 140737488355328 then bif flatL ([]++List.take (((IntKind.i64.wrap c).toNat-0)*1) ([]:List V)++[V.str fi])&&
 true then bif decide (0≤IntKind.i64.wrap c)then bif (IntKind.i64.wrap c).toNat.ble 0&&true then bif (0-(IntKind.i64.wrap c).toNat).beq 0 then bif (0-
 (IntKind.i64.wrap c).toNat).beq 0 then bif OK (V.slice 7 0 (0+((IntKind.i64.wrap c).toNat-0)+1) false 0 0) [Blk.ro false [V.bool (LV (V.lst x 0 []) []).st,V.bool
 (LV (V.lst x 0 []) []).pi,V.bool (LV (V.lst x 0 []) []).rq,V.bool (LV (V.lst x 0 []) []).ds,V.bool (LV (V.lst x 0 []) []).eb,V.bool (LV (V.lst x 0 []) []).si,V.int
 IntKind.i64 (LV (V.lst x 0 []) []).mo],Blk.ro false [V.str fi],Blk.ro false [V.str fi],Blk.ro false [V.str fi],Blk.dead,Blk.dead,Blk.ro false [V.str fi],Blk.ro
 false ([]++List.take (((IntKind.i64.wrap c).toNat-0)*1) ([]:List V)++[V.str fi])]then bif (LV (V.slice 7 0 (0+((IntKind.i64.wrap c).toNat-0)+1) false 0
 0) [Blk.ro false [V.bool (LV (V.lst x 0 []) []).st,V.bool (LV (V.lst x 0 []) []).pi,V.bool (LV (V.lst x 0 []) []).rq,V.bool (LV (V.lst x 0 []) []).ds,V.bool (LV
 (V.lst x 0 []) []).eb,V.bool (LV (V.lst x 0 []) []).si,V.int IntKind.i64 (LV (V.lst x 0 []) []).mo],Blk.ro false [V.str fi],Blk.ro false [V.str fi],Blk.ro false
 [V.str fi],Blk.dead,Blk.dead,Blk.ro false [V.str fi],Blk.ro false ([]++List.take (((IntKind.i64.wrap c).toNat-0)*1) ([]:List V)++[V.str fi])]).st==(LV
 (V.lst x 0 []) []).st then bif (LV (V.slice 7 0 (0+((IntKind.i64.wrap c).toNat-0)+1) false 0 0) [Blk.ro false [V.bool (LV (V.lst x 0 []) []).st,V.bool (LV (V.lst x
 0 []) []).pi,V.bool (LV (V.lst x 0 []) []).rq,V.bool (LV (V.lst x 0 []) []).ds,V.bool (LV (V.lst x 0 []) []).eb,V.bool (LV (V.lst x 0 []) []).si,V.int IntKind.i64
 (LV (V.lst x 0 []) []).mo],Blk.ro false [V.str fi],Blk.ro false [V.str fi],Blk.ro false [V.str fi],Blk.dead,Blk.dead,Blk.ro false [V.str fi],Blk.ro false ([]++
 List.take (((IntKind.i64.wrap c).toNat-0)*1) ([]:List V)++[V.str fi])]).pi==(LV (V.lst x 0 []) []).pi then bif (LV (V.slice 7 0 (0+((IntKind.i64.wrap c).toNat
 -0)+1) false 0 0) [Blk.ro false [V.bool (LV (V.lst x 0 []) []).st,V.bool (LV (V.lst x 0 []) []).pi,V.bool (LV (V.lst x 0 []) []).rq,V.bool (LV (V.lst x 0 [])
 []).ds,V.bool (LV (V.lst x 0 []) []).eb,V.bool (LV (V.lst x 0 []) []).si,V.int IntKind.i64 (LV (V.lst x 0 []) []).mo],Blk.ro false [V.str fi],Blk.ro false [V.str
 fi],Blk.ro false [V.str fi],Blk.dead,Blk.dead,Blk.ro false [V.str fi],Blk.ro false ([]++List.take (((IntKind.i64.wrap c).toNat-0)*1) ([]:List V)++[V.str
 fi])]).rq==(LV (V.lst x 0 []) []).rq then bif (LV (V.slice 7 0 (0+((IntKind.i64.wrap c).toNat-0)+1) false 0 0) [Blk.ro false [V.bool (LV (V.lst x 0 []) []).st,
 V.bool (LV (V.lst x 0 []) []).pi,V.bool (LV (V.lst x 0 []) []).rq,V.bool (LV (V.lst x 0 []) []).ds,V.bool (LV (V.lst x 0 []) []).eb,V.bool (LV (V.lst x 0 []) []).si,
 V.int IntKind.i64 (LV (V.lst x 0 []) []).mo],Blk.ro false [V.str fi],Blk.ro false [V.str fi],Blk.ro false [V.str fi],Blk.dead,Blk.dead,Blk.ro false [V.str fi],
 Blk.ro false ([]++List.take (((IntKind.i64.wrap c).toNat-0)*1) ([]:List V)++[V.str fi])]).ds==(LV (V.lst x 0 []) []).ds then bif (LV (V.slice 7 0 (0+
 ((IntKind.i64.wrap c).toNat-0)+1) false 0 0) [Blk.ro false [V.bool (LV (V.lst x 0 []) []).st,V.bool (LV (V.lst x 0 []) []).pi,V.bool (LV (V.lst x 0 []) []).rq,
 V.bool (LV (V.lst x 0 []) []).ds,V.bool (LV (V.lst x 0 []) []).eb,V.bool (LV (V.lst x 0 []) []).si,V.int IntKind.i64 (LV (V.lst x 0 []) []).mo],Blk.ro false [V.str
 fi],Blk.ro false [V.str fi],Blk.ro false [V.str fi],Blk.dead,Blk.dead,Blk.ro false [V.str fi],Blk.ro false ([]++List.take (((IntKind.i64.wrap c).toNat-0)*1)
 ([]:List V)++[V.str fi])]).eb==(LV (V.lst x 0 []) []).eb then bif (LV (V.slice 7 0 (0+((IntKind.i64.wrap c).toNat-0)+1) false 0 0) [Blk.ro false [V.bool (LV
 (V.lst x 0 []) []).st,V.bool (LV (V.lst x 0 []) []).pi,V.bool (LV (V.lst x 0 []) []).rq,V.bool (LV (V.lst x 0 []) []).ds,V.bool (LV (V.lst x 0 []) []).eb,V.bool (LV
 (V.lst x 0 []) []).si,V.int IntKind.i64 (LV (V.lst x 0 []) []).mo],Blk.ro false [V.str fi],Blk.ro false [V.str fi],Blk.ro false [V.str fi],Blk.dead,Blk.dead,Blk.ro
 false [V.str fi],Blk.ro false ([]++List.take (((IntKind.i64.wrap c).toNat-0)*1) ([]:List V)++[V.str fi])]).si==(LV (V.lst x 0 []) []).si then bif (LV
 (V.slice 7 0 (0+((IntKind.i64.wrap c).toNat-0)+1) false 0 0) [Blk.ro false [V.bool (LV (V.lst x 0 []) []).st,V.bool (LV (V.lst x 0 []) []).pi,V.bool (LV (V.lst x
 0 []) []).rq,V.bool (LV (V.lst x 0 []) []).ds,V.bool (LV (V.lst x 0 []) []).eb,V.bool (LV (V.lst x 0 []) []).si,V.int IntKind.i64 (LV (V.lst x 0 []) []).mo],Blk.ro
 false [V.str fi],Blk.ro false [V.str fi],Blk.ro false [V.str fi],Blk.dead,Blk.dead,Blk.ro false [V.str fi],Blk.ro false ([]++List.take (((IntKind.i64.wrap
 c).toNat-0)*1) ([]:List V)++[V.str fi])]).mo==(LV (V.lst x 0 []) []).mo then R (V.bool true)else R (V.bool false)else R (V.bool false)else R (V.bool false)
 else R (V.bool false)else R (V.bool false)else R (V.bool false)else R (V.bool false)else False else False else bif (List.take ((0-(IntKind.i64.wrap c).toNat)*1)
 (List.drop ((IntKind.i64.wrap c).toNat*1) ([]:List V))).length.beq ((0-(IntKind.i64.wrap c).toNat)*1)&&(List.take ((0-(IntKind.i64.wrap c).toNat)*1)
 (List.drop ((IntKind.i64.wrap c).toNat*1) ([]:List V))).all V.one then bif ([]++List.take (((IntKind.i64.wrap c).toNat-0)*1) ([]:List V)++[V.str
 fi]).length.beq ((0+((IntKind.i64.wrap c).toNat-0)+1)*1)then bif (0+((IntKind.i64.wrap c).toNat-0)+1+(0-(IntKind.i64.wrap c).toNat)).ble
 9223372036854775807&&((0+((IntKind.i64.wrap c).toNat-0)+1+(0-(IntKind.i64.wrap c).toNat))*16).ble 140737488355328 then bif flatL ([]++List.take
 (((IntKind.i64.wrap c).toNat-0)*1) ([]:List V)++[V.str fi]++List.take ((0-(IntKind.i64.wrap c).toNat)*1) (List.drop ((IntKind.i64.wrap c).toNat*1) ([]:
 List V)))&&true then bif OK (V.slice 8 0 (0+((IntKind.i64.wrap c).toNat-0)+1+(0-(IntKind.i64.wrap c).toNat)) false 0 0) [Blk.ro false [V.bool (LV (V.lst x 0
 []) []).st,V.bool (LV (V.lst x 0 []) []).pi,V.bool (LV (V.lst x 0 []) []).rq,V.bool (LV (V.lst x 0 []) []).ds,V.bool (LV (V.lst x 0 []) []).eb,V.bool (LV (V.lst x 0
 []) []).si,V.int IntKind.i64 (LV (V.lst x 0 []) []).mo],Blk.ro false [V.str fi],Blk.ro false [V.str fi],Blk.ro false [V.str fi],Blk.dead,Blk.dead,Blk.ro false
 [V.str fi],Blk.dead,Blk.ro false ([]++List.take (((IntKind.i64.wrap c).toNat-0)*1) ([]:List V)++[V.str fi]++List.take ((0-(IntKind.i64.wrap c).toNat)*1)
 (List.drop ((IntKind.i64.wrap c).toNat*1) ([]:List V)))]then bif (LV (V.slice 8 0 (0+((IntKind.i64.wrap c).toNat-0)+1+(0-(IntKind.i64.wrap c).toNat)) false
 0 0) [Blk.ro false [V.bool (LV (V.lst x 0 []) []).st,V.bool (LV (V.lst x 0 []) []).pi,V.bool (LV (V.lst x 0 []) []).rq,V.bool (LV (V.lst x 0 []) []).ds,V.bool (LV
 (V.lst x 0 []) []).eb,V.bool (LV (V.lst x 0 []) []).si,V.int IntKind.i64 (LV (V.lst x 0 []) []).mo],Blk.ro false [V.str fi],Blk.ro false [V.str fi],Blk.ro false
 [V.str fi],Blk.dead,Blk.dead,Blk.ro false [V.str fi],Blk.dead,Blk.ro false ([]++List.take (((IntKind.i64.wrap c).toNat-0)*1) ([]:List V)++[V.str fi]++
 List.take ((0-(IntKind.i64.wrap c).toNat)*1) (List.drop ((IntKind.i64.wrap c).toNat*1) ([]:List V)))]).st==(LV (V.lst x 0 []) []).st then bif (LV (V.slice 8 0
 (0+((IntKind.i64.wrap c).toNat-0)+1+(0-(IntKind.i64.wrap c).toNat)) false 0 0) [Blk.ro false [V.bool (LV (V.lst x 0 []) []).st,V.bool (LV (V.lst x 0 [])
 []).pi,V.bool (LV (V.lst x 0 []) []).rq,V.bool (LV (V.lst x 0 []) []).ds,V.bool (LV (V.lst x 0 []) []).eb,V.bool (LV (V.lst x 0 []) []).si,V.int IntKind.i64 (LV
 (V.lst x 0 []) []).mo],Blk.ro false [V.str fi],Blk.ro false [V.str fi],Blk.ro false [V.str fi],Blk.dead,Blk.dead,Blk.ro false [V.str fi],Blk.dead,Blk.ro false ([]
 ++List.take (((IntKind.i64.wrap c).toNat-0)*1) ([]:List V)++[V.str fi]++List.take ((0-(IntKind.i64.wrap c).toNat)*1) (List.drop ((IntKind.i64.wrap c).toNat
 *1) ([]:List V)))]).pi==(LV (V.lst x 0 []) []).pi then bif (LV (V.slice 8 0 (0+((IntKind.i64.wrap c).toNat-0)+1+(0-(IntKind.i64.wrap c).toNat)) false 0 0)
 [Blk.ro false [V.bool (LV (V.lst x 0 []) []).st,V.bool (LV (V.lst x 0 []) []).pi,V.bool (LV (V.lst x 0 []) []).rq,V.bool (LV (V.lst x 0 []) []).ds,V.bool (LV (V.lst x
 0 []) []).eb,V.bool (LV (V.lst x 0 []) []).si,V.int IntKind.i64 (LV (V.lst x 0 []) []).mo],Blk.ro false [V.str fi],Blk.ro false [V.str fi],Blk.ro false [V.str fi],
 Blk.dead,Blk.dead,Blk.ro false [V.str fi],Blk.dead,Blk.ro false ([]++List.take (((IntKind.i64.wrap c).toNat-0)*1) ([]:List V)++[V.str fi]++List.take ((0-
 (IntKind.i64.wrap c).toNat)*1) (List.drop ((IntKind.i64.wrap c).toNat*1) ([]:List V)))]).rq==(LV (V.lst x 0 []) []).rq then bif (LV (V.slice 8 0 (0+
 ((IntKind.i64.wrap c).toNat-0)+1+(0-(IntKind.i64.wrap c).toNat)) false 0 0) [Blk.ro false [V.bool (LV (V.lst x 0 []) []).st,V.bool (LV (V.lst x 0 []) []).pi,
 V.bool (LV (V.lst x 0 []) []).rq,V.bool (LV (V.lst x 0 []) []).ds,V.bool (LV (V.lst x 0 []) []).eb,V.bool (LV (V.lst x 0 []) []).si,V.int IntKind.i64 (LV (V.lst x 0
 []) []).mo],Blk.ro false [V.str fi],Blk.ro false [V.str fi],Blk.ro false [V.str fi],Blk.dead,Blk.dead,Blk.ro false [V.str fi],Blk.dead,Blk.ro false ([]++
 List.take (((IntKind.i64.wrap c).toNat-0)*1) ([]:List V)++[V.str fi]++List.take ((0-(IntKind.i64.wrap c).toNat)*1) (List.drop ((IntKind.i64.wrap c).toNat*
 1) ([]:List V)))]).ds==(LV (V.lst x 0 []) []).ds then bif (LV (V.slice 8 0 (0+((IntKind.i64.wrap c).toNat-0)+1+(0-(IntKind.i64.wrap c).toNat)) false 0 0)
 [Blk.ro false [V.bool (LV (V.lst x 0 []) []).st,V.bool (LV (V.lst x 0 []) []).pi,V.bool (LV (V.lst x 0 []) []).rq,V.bool (LV (V.lst x 0 []) []).ds,V.bool (LV (V.lst x
 0 []) []).eb,V.bool (LV (V.lst x 0 []) []).si,V.int IntKind.i64 (LV (V.lst x 0 []) []).mo],Blk.ro false [V.str fi],Blk.ro false [V.str fi],Blk.ro false [V.str fi],
 Blk.dead,Blk.dead,Blk.ro false [V.str fi],Blk.dead,Blk.ro false ([]++List.take (((IntKind.i64.wrap c).toNat-0)*1) ([]:List V)++[V.str fi]++List.take ((0-
 (IntKind.i64.wrap c).toNat)*1) (List.drop ((IntKind.i64.wrap c).toNat*1) ([]:List V)))]).eb==(LV (V.lst x 0 []) []).eb then bif (LV (V.slice 8 0 (0+
 ((IntKind.i64.wrap c).toNat-0)+1+(0-(IntKind.i64.wrap c).toNat)) false 0 0) [Blk.ro false [V.bool (LV (V.lst x 0 []) []).st,V.bool (LV (V.lst x 0 []) []).pi,
 V.bool (LV (V.lst x 0 []) []).rq,V.bool (LV (V.lst x 0 []) []).ds,V.bool (LV (V.lst x 0 []) []).eb,V.bool (LV (V.lst x 0 []) []).si,V.int IntKind.i64 (LV (V.lst x 0
 []) []).mo],Blk.ro false [V.str fi],Blk.ro false [V.str fi],Blk.ro false [V.str fi],Blk.dead,Blk.dead,Blk.ro false [V.str fi],Blk.dead,Blk.ro false ([]++
 List.take (((IntKind.i64.wrap c).toNat-0)*1) ([]:List V)++[V.str fi]++List.take ((0-(IntKind.i64.wrap c).toNat)*1) (List.drop ((IntKind.i64.wrap c).toNat*
 1) ([]:List V)))]).si==(LV (V.lst x 0 []) []).si then bif (LV (V.slice 8 0 (0+((IntKind.i64.wrap c).toNat-0)+1+(0-(IntKind.i64.wrap c).toNat)) false 0 0)
 [Blk.ro false [V.bool (LV (V.lst x 0 []) []).st,V.bool (LV (V.lst x 0 []) []).pi,V.bool (LV (V.lst x 0 []) []).rq,V.bool (LV (V.lst x 0 []) []).ds,V.bool (LV (V.lst x
 0 []) []).eb,V.bool (LV (V.lst x 0 []) []).si,V.int IntKind.i64 (LV (V.lst x 0 []) []).mo],Blk.ro false [V.str fi],Blk.ro false [V.str fi],Blk.ro false [V.str fi],
 Blk.dead,Blk.dead,Blk.ro false [V.str fi],Blk.dead,Blk.ro false ([]++List.take (((IntKind.i64.wrap c).toNat-0)*1) ([]:List V)++[V.str fi]++List.take ((0-
 (IntKind.i64.wrap c).toNat)*1) (List.drop ((IntKind.i64.wrap c).toNat*1) ([]:List V)))]).mo==(LV (V.lst x 0 []) []).mo then R (V.bool true)else R (V.bool false)
 else R (V.bool false)else R (V.bool false)else R (V.bool false)else R (V.bool false)else R (V.bool false)else R (V.bool false)else False else False else False else
 False else False else False else False else False else False else False else False else False else False else False else False else R (V.bool true)else R (V.bool true)
 else R (V.bool true)else R (V.bool true)else R (V.bool true)else R (V.bool true)else R (V.bool true)else False else R (V.bool false)else R (V.bool false)else R
 (V.bool false)else R (V.bool false)else R (V.bool false)else R (V.bool false)else R (V.bool false)else False else ∀(c:Int),c=(IntKind.u64.wrap a).tmod 1→bif
 OK (V.slice 2 0 1 false 0 0) [Blk.row [V.bool (LV (V.lst x 0 []) []).st,V.bool (LV (V.lst x 0 []) []).pi,V.bool (LV (V.lst x 0 []) []).rq,V.bool (LV (V.lst x 0 [])
 []).ds,V.bool (LV (V.lst x 0 []) []).eb,V.bool (LV (V.lst x 0 []) []).si,V.int IntKind.i64 (LV (V.lst x 0 []) []).mo] 34 7,Blk.row [V.str fi] 9 1,Blk.row [V.str fi]
 9 1]then bif (LV (V.slice 2 0 1 false 0 0) [Blk.row [V.bool (LV (V.lst x 0 []) []).st,V.bool (LV (V.lst x 0 []) []).pi,V.bool (LV (V.lst x 0 []) []).rq,V.bool (LV
 (V.lst x 0 []) []).ds,V.bool (LV (V.lst x 0 []) []).eb,V.bool (LV (V.lst x 0 []) []).si,V.int IntKind.i64 (LV (V.lst x 0 []) []).mo] 34 7,Blk.row [V.str fi] 9 1,
 Blk.row [V.str fi] 9 1]).st==false then bif (LV (V.slice 2 0 1 false 0 0) [Blk.row [V.bool (LV (V.lst x 0 []) []).st,V.bool (LV (V.lst x 0 []) []).pi,V.bool (LV
 (V.lst x 0 []) []).rq,V.bool (LV (V.lst x 0 []) []).ds,V.bool (LV (V.lst x 0 []) []).eb,V.bool (LV (V.lst x 0 []) []).si,V.int IntKind.i64 (LV (V.lst x 0 []) []).mo]
 34 7,Blk.row [V.str fi] 9 1,Blk.row [V.str fi] 9 1]).pi==false then bif (LV (V.slice 2 0 1 false 0 0) [Blk.row [V.bool (LV (V.lst x 0 []) []).st,V.bool (LV (V.lst x
 0 []) []).pi,V.bool (LV (V.lst x 0 []) []).rq,V.bool (LV (V.lst x 0 []) []).ds,V.bool (LV (V.lst x 0 []) []).eb,V.bool (LV (V.lst x 0 []) []).si,V.int IntKind.i64
 (LV (V.lst x 0 []) []).mo] 34 7,Blk.row [V.str fi] 9 1,Blk.row [V.str fi] 9 1]).rq==false then bif (LV (V.slice 2 0 1 false 0 0) [Blk.row [V.bool (LV (V.lst x 0 [])
 []).st,V.bool (LV (V.lst x 0 []) []).pi,V.bool (LV (V.lst x 0 []) []).rq,V.bool (LV (V.lst x 0 []) []).ds,V.bool (LV (V.lst x 0 []) []).eb,V.bool (LV (V.lst x 0 [])
 []).si,V.int IntKind.i64 (LV (V.lst x 0 []) []).mo] 34 7,Blk.row [V.str fi] 9 1,Blk.row [V.str fi] 9 1]).ds==false then bif (LV (V.slice 2 0 1 false 0 0) [Blk.row
 [V.bool (LV (V.lst x 0 []) []).st,V.bool (LV (V.lst x 0 []) []).pi,V.bool (LV (V.lst x 0 []) []).rq,V.bool (LV (V.lst x 0 []) []).ds,V.bool (LV (V.lst x 0 []) []).eb,
 V.bool (LV (V.lst x 0 []) []).si,V.int IntKind.i64 (LV (V.lst x 0 []) []).mo] 34 7,Blk.row [V.str fi] 9 1,Blk.row [V.str fi] 9 1]).eb==false then bif (LV (V.slice 2
 0 1 false 0 0) [Blk.row [V.bool (LV (V.lst x 0 []) []).st,V.bool (LV (V.lst x 0 []) []).pi,V.bool (LV (V.lst x 0 []) []).rq,V.bool (LV (V.lst x 0 []) []).ds,V.bool
 (LV (V.lst x 0 []) []).eb,V.bool (LV (V.lst x 0 []) []).si,V.int IntKind.i64 (LV (V.lst x 0 []) []).mo] 34 7,Blk.row [V.str fi] 9 1,Blk.row [V.str fi] 9 1]).si==
 false then bif (LV (V.slice 2 0 1 false 0 0) [Blk.row [V.bool (LV (V.lst x 0 []) []).st,V.bool (LV (V.lst x 0 []) []).pi,V.bool (LV (V.lst x 0 []) []).rq,V.bool (LV
 (V.lst x 0 []) []).ds,V.bool (LV (V.lst x 0 []) []).eb,V.bool (LV (V.lst x 0 []) []).si,V.int IntKind.i64 (LV (V.lst x 0 []) []).mo] 34 7,Blk.row [V.str fi] 9 1,
 Blk.row [V.str fi] 9 1]).mo==0 then bif decide (0≤IntKind.i64.wrap c)then bif true&&(IntKind.i64.wrap c).toNat.ble 0 then bif ((IntKind.i64.wrap c).toNat-0).beq
 0 then bif ((IntKind.i64.wrap c).toNat-0).beq 0 then bif decide (0≤IntKind.i64.wrap c)then bif (IntKind.i64.wrap c).toNat.ble 0&&true then bif (0-
 (IntKind.i64.wrap c).toNat).beq 0 then bif (0-(IntKind.i64.wrap c).toNat).beq 0 then bif OK (V.slice 5 0 1 false 0 0) [Blk.ro false [V.bool (LV (V.lst x 0 []) []).st,
 V.bool (LV (V.lst x 0 []) []).pi,V.bool (LV (V.lst x 0 []) []).rq,V.bool (LV (V.lst x 0 []) []).ds,V.bool (LV (V.lst x 0 []) []).eb,V.bool (LV (V.lst x 0 []) []).si,
 V.int IntKind.i64 (LV (V.lst x 0 []) []).mo],Blk.ro false [V.str fi],Blk.ro false [V.str fi],Blk.dead,Blk.ro false [V.str fi],Blk.ro false [V.str fi]]then bif (LV
 (V.slice 5 0 1 false 0 0) [Blk.ro false [V.bool (LV (V.lst x 0 []) []).st,V.bool (LV (V.lst x 0 []) []).pi,V.bool (LV (V.lst x 0 []) []).rq,V.bool (LV (V.lst x 0 [])
 []).ds,V.bool (LV (V.lst x 0 []) []).eb,V.bool (LV (V.lst x 0 []) []).si,V.int IntKind.i64 (LV (V.lst x 0 []) []).mo],Blk.ro false [V.str fi],Blk.ro false [V.str
 fi],Blk.dead,Blk.ro false [V.str fi],Blk.ro false [V.str fi]]).st==(LV (V.lst x 0 []) []).st then bif (LV (V.slice 5 0 1 false 0 0) [Blk.ro false [V.bool (LV (V.lst
 x 0 []) []).st,V.bool (LV (V.lst x 0 []) []).pi,V.bool (LV (V.lst x 0 []) []).rq,V.bool (LV (V.lst x 0 []) []).ds,V.bool (LV (V.lst x 0 []) []).eb,V.bool (LV (V.lst
 x 0 []) []).si,V.int IntKind.i64 (LV (V.lst x 0 []) []).mo],Blk.ro false [V.str fi],Blk.ro false [V.str fi],Blk.dead,Blk.ro false [V.str fi],Blk.ro false [V.str
 fi]]).pi==(LV (V.lst x 0 []) []).pi then bif (LV (V.slice 5 0 1 false 0 0) [Blk.ro false [V.bool (LV (V.lst x 0 []) []).st,V.bool (LV (V.lst x 0 []) []).pi,V.bool (LV
 (V.lst x 0 []) []).rq,V.bool (LV (V.lst x 0 []) []).ds,V.bool (LV (V.lst x 0 []) []).eb,V.bool (LV (V.lst x 0 []) []).si,V.int IntKind.i64 (LV (V.lst x 0 []) []).mo],
 Blk.ro false [V.str fi],Blk.ro false [V.str fi],Blk.dead,Blk.ro false [V.str fi],Blk.ro false [V.str fi]]).rq==(LV (V.lst x 0 []) []).rq then bif (LV (V.slice 5 0 1
 false 0 0) [Blk.ro false [V.bool (LV (V.lst x 0 []) []).st,V.bool (LV (V.lst x 0 []) []).pi,V.bool (LV (V.lst x 0 []) []).rq,V.bool (LV (V.lst x 0 []) []).ds,V.bool
 (LV (V.lst x 0 []) []).eb,V.bool (LV (V.lst x 0 []) []).si,V.int IntKind.i64 (LV (V.lst x 0 []) []).mo],Blk.ro false [V.str fi],Blk.ro false [V.str fi],Blk.dead,
 Blk.ro false [V.str fi],Blk.ro false [V.str fi]]).ds==(LV (V.lst x 0 []) []).ds then bif (LV (V.slice 5 0 1 false 0 0) [Blk.ro false [V.bool (LV (V.lst x 0 []) []).st,
 V.bool (LV (V.lst x 0 []) []).pi,V.bool (LV (V.lst x 0 []) []).rq,V.bool (LV (V.lst x 0 []) []).ds,V.bool (LV (V.lst x 0 []) []).eb,V.bool (LV (V.lst x 0 []) []).si,
 V.int IntKind.i64 (LV (V.lst x 0 []) []).mo],Blk.ro false [V.str fi],Blk.ro false [V.str fi],Blk.dead,Blk.ro false [V.str fi],Blk.ro false [V.str fi]]).eb==(LV
 (V.lst x 0 []) []).eb then bif (LV (V.slice 5 0 1 false 0 0) [Blk.ro false [V.bool (LV (V.lst x 0 []) []).st,V.bool (LV (V.lst x 0 []) []).pi,V.bool (LV (V.lst x 0 [])
 []).rq,V.bool (LV (V.lst x 0 []) []).ds,V.bool (LV (V.lst x 0 []) []).eb,V.bool (LV (V.lst x 0 []) []).si,V.int IntKind.i64 (LV (V.lst x 0 []) []).mo],Blk.ro false
 [V.str fi],Blk.ro false [V.str fi],Blk.dead,Blk.ro false [V.str fi],Blk.ro false [V.str fi]]).si==(LV (V.lst x 0 []) []).si then bif (LV (V.slice 5 0 1 false 0 0)
 [Blk.ro false [V.bool (LV (V.lst x 0 []) []).st,V.bool (LV (V.lst x 0 []) []).pi,V.bool (LV (V.lst x 0 []) []).rq,V.bool (LV (V.lst x 0 []) []).ds,V.bool (LV (V.lst x
 0 []) []).eb,V.bool (LV (V.lst x 0 []) []).si,V.int IntKind.i64 (LV (V.lst x 0 []) []).mo],Blk.ro false [V.str fi],Blk.ro false [V.str fi],Blk.dead,Blk.ro false
 [V.str fi],Blk.ro false [V.str fi]]).mo==(LV (V.lst x 0 []) []).mo then R (V.bool true)else R (V.bool false)else R (V.bool false)else R (V.bool false)else R
 (V.bool false)else R (V.bool false)else R (V.bool false)else R (V.bool false)else False else False else bif (List.take ((0-(IntKind.i64.wrap c).toNat)*1)
 (List.drop ((IntKind.i64.wrap c).toNat*1) ([]:List V))).length.beq ((0-(IntKind.i64.wrap c).toNat)*1)&&(List.take ((0-(IntKind.i64.wrap c).toNat)*1)
 (List.drop ((IntKind.i64.wrap c).toNat*1) ([]:List V))).all V.one then bif (1+(0-(IntKind.i64.wrap c).toNat)).ble 9223372036854775807&&((1+(0-
 (IntKind.i64.wrap c).toNat))*16).ble 140737488355328 then bif flatL (V.str fi::(List.take ((0-(IntKind.i64.wrap c).toNat)*1) (List.drop ((IntKind.i64.wrap
 c).toNat*1) ([]:List V))))&&true then bif OK (V.slice 6 0 (1+(0-(IntKind.i64.wrap c).toNat)) false 0 0) [Blk.ro false [V.bool (LV (V.lst x 0 []) []).st,V.bool
 (LV (V.lst x 0 []) []).pi,V.bool (LV (V.lst x 0 []) []).rq,V.bool (LV (V.lst x 0 []) []).ds,V.bool (LV (V.lst x 0 []) []).eb,V.bool (LV (V.lst x 0 []) []).si,V.int
 IntKind.i64 (LV (V.lst x 0 []) []).mo],Blk.ro false [V.str fi],Blk.ro false [V.str fi],Blk.dead,Blk.ro false [V.str fi],Blk.dead,Blk.ro false (V.str fi::
 (List.take ((0-(IntKind.i64.wrap c).toNat)*1) (List.drop ((IntKind.i64.wrap c).toNat*1) ([]:List V))))]then bif (LV (V.slice 6 0 (1+(0-(IntKind.i64.wrap
 c).toNat)) false 0 0) [Blk.ro false [V.bool (LV (V.lst x 0 []) []).st,V.bool (LV (V.lst x 0 []) []).pi,V.bool (LV (V.lst x 0 []) []).rq,V.bool (LV (V.lst x 0 [])
 []).ds,V.bool (LV (V.lst x 0 []) []).eb,V.bool (LV (V.lst x 0 []) []).si,V.int IntKind.i64 (LV (V.lst x 0 []) []).mo],Blk.ro false [V.str fi],Blk.ro false [V.str
 fi],Blk.dead,Blk.ro false [V.str fi],Blk.dead,Blk.ro false (V.str fi::(List.take ((0-(IntKind.i64.wrap c).toNat)*1) (List.drop ((IntKind.i64.wrap c).toNat*1)
 ([]:List V))))]).st==(LV (V.lst x 0 []) []).st then bif (LV (V.slice 6 0 (1+(0-(IntKind.i64.wrap c).toNat)) false 0 0) [Blk.ro false [V.bool (LV (V.lst x 0 [])
 []).st,V.bool (LV (V.lst x 0 []) []).pi,V.bool (LV (V.lst x 0 []) []).rq,V.bool (LV (V.lst x 0 []) []).ds,V.bool (LV (V.lst x 0 []) []).eb,V.bool (LV (V.lst x 0 [])
 []).si,V.int IntKind.i64 (LV (V.lst x 0 []) []).mo],Blk.ro false [V.str fi],Blk.ro false [V.str fi],Blk.dead,Blk.ro false [V.str fi],Blk.dead,Blk.ro false (V.str
 fi::(List.take ((0-(IntKind.i64.wrap c).toNat)*1) (List.drop ((IntKind.i64.wrap c).toNat*1) ([]:List V))))]).pi==(LV (V.lst x 0 []) []).pi then bif (LV
 (V.slice 6 0 (1+(0-(IntKind.i64.wrap c).toNat)) false 0 0) [Blk.ro false [V.bool (LV (V.lst x 0 []) []).st,V.bool (LV (V.lst x 0 []) []).pi,V.bool (LV (V.lst x 0
 []) []).rq,V.bool (LV (V.lst x 0 []) []).ds,V.bool (LV (V.lst x 0 []) []).eb,V.bool (LV (V.lst x 0 []) []).si,V.int IntKind.i64 (LV (V.lst x 0 []) []).mo],Blk.ro
 false [V.str fi],Blk.ro false [V.str fi],Blk.dead,Blk.ro false [V.str fi],Blk.dead,Blk.ro false (V.str fi::(List.take ((0-(IntKind.i64.wrap c).toNat)*1)
 (List.drop ((IntKind.i64.wrap c).toNat*1) ([]:List V))))]).rq==(LV (V.lst x 0 []) []).rq then bif (LV (V.slice 6 0 (1+(0-(IntKind.i64.wrap c).toNat)) false 0 0)
 [Blk.ro false [V.bool (LV (V.lst x 0 []) []).st,V.bool (LV (V.lst x 0 []) []).pi,V.bool (LV (V.lst x 0 []) []).rq,V.bool (LV (V.lst x 0 []) []).ds,V.bool (LV (V.lst x
 0 []) []).eb,V.bool (LV (V.lst x 0 []) []).si,V.int IntKind.i64 (LV (V.lst x 0 []) []).mo],Blk.ro false [V.str fi],Blk.ro false [V.str fi],Blk.dead,Blk.ro false
 [V.str fi],Blk.dead,Blk.ro false (V.str fi::(List.take ((0-(IntKind.i64.wrap c).toNat)*1) (List.drop ((IntKind.i64.wrap c).toNat*1) ([]:List V))))]).ds==(LV
 (V.lst x 0 []) []).ds then bif (LV (V.slice 6 0 (1+(0-(IntKind.i64.wrap c).toNat)) false 0 0) [Blk.ro false [V.bool (LV (V.lst x 0 []) []).st,V.bool (LV (V.lst x 0
 []) []).pi,V.bool (LV (V.lst x 0 []) []).rq,V.bool (LV (V.lst x 0 []) []).ds,V.bool (LV (V.lst x 0 []) []).eb,V.bool (LV (V.lst x 0 []) []).si,V.int IntKind.i64 (LV
 (V.lst x 0 []) []).mo],Blk.ro false [V.str fi],Blk.ro false [V.str fi],Blk.dead,Blk.ro false [V.str fi],Blk.dead,Blk.ro false (V.str fi::(List.take ((0-
 (IntKind.i64.wrap c).toNat)*1) (List.drop ((IntKind.i64.wrap c).toNat*1) ([]:List V))))]).eb==(LV (V.lst x 0 []) []).eb then bif (LV (V.slice 6 0 (1+(0-
 (IntKind.i64.wrap c).toNat)) false 0 0) [Blk.ro false [V.bool (LV (V.lst x 0 []) []).st,V.bool (LV (V.lst x 0 []) []).pi,V.bool (LV (V.lst x 0 []) []).rq,V.bool (LV
 (V.lst x 0 []) []).ds,V.bool (LV (V.lst x 0 []) []).eb,V.bool (LV (V.lst x 0 []) []).si,V.int IntKind.i64 (LV (V.lst x 0 []) []).mo],Blk.ro false [V.str fi],Blk.ro
 false [V.str fi],Blk.dead,Blk.ro false [V.str fi],Blk.dead,Blk.ro false (V.str fi::(List.take ((0-(IntKind.i64.wrap c).toNat)*1) (List.drop ((IntKind.i64.wrap
 c).toNat*1) ([]:List V))))]).si==(LV (V.lst x 0 []) []).si then bif (LV (V.slice 6 0 (1+(0-(IntKind.i64.wrap c).toNat)) false 0 0) [Blk.ro false [V.bool (LV
 (V.lst x 0 []) []).st,V.bool (LV (V.lst x 0 []) []).pi,V.bool (LV (V.lst x 0 []) []).rq,V.bool (LV (V.lst x 0 []) []).ds,V.bool (LV (V.lst x 0 []) []).eb,V.bool (LV
 (V.lst x 0 []) []).si,V.int IntKind.i64 (LV (V.lst x 0 []) []).mo],Blk.ro false [V.str fi],Blk.ro false [V.str fi],Blk.dead,Blk.ro false [V.str fi],Blk.dead,Blk.ro
 false (V.str fi::(List.take ((0-(IntKind.i64.wrap c).toNat)*1) (List.drop ((IntKind.i64.wrap c).toNat*1) ([]:List V))))]).mo==(LV (V.lst x 0 []) []).mo then R
 (V.bool true)else R (V.bool false)else R (V.bool false)else R (V.bool false)else R (V.bool false)else R (V.bool false)else R (V.bool false)else R (V.bool false)
 else False else False else False else False else False else False else False else bif (List.take (((IntKind.i64.wrap c).toNat-0)*1) ([]:List V)).length.beq
 (((IntKind.i64.wrap c).toNat-0)*1)&&(List.take (((IntKind.i64.wrap c).toNat-0)*1) ([]:List V)).all V.one then bif (0+((IntKind.i64.wrap c).toNat-0)).ble
 9223372036854775807&&((0+((IntKind.i64.wrap c).toNat-0))*16).ble 140737488355328 then bif flatL ([]++List.take (((IntKind.i64.wrap c).toNat-0)*1) ([]:List
 V))&&true then bif ([]++List.take (((IntKind.i64.wrap c).toNat-0)*1) ([]:List V)).length.beq ((0+((IntKind.i64.wrap c).toNat-0))*1)then bif (0+
 ((IntKind.i64.wrap c).toNat-0)+1).ble 9223372036854775807&&((0+((IntKind.i64.wrap c).toNat-0)+1)*16).ble 140737488355328 then bif flatL ([]++List.take
 (((IntKind.i64.wrap c).toNat-0)*1) ([]:List V)++[V.str fi])&&true then bif decide (0≤IntKind.i64.wrap c)then bif (IntKind.i64.wrap c).toNat.ble 0&&true
 then bif (0-(IntKind.i64.wrap c).toNat).beq 0 then bif (0-(IntKind.i64.wrap c).toNat).beq 0 then bif OK (V.slice 6 0 (0+((IntKind.i64.wrap c).toNat-0)+1) false
 0 0) [Blk.ro false [V.bool (LV (V.lst x 0 []) []).st,V.bool (LV (V.lst x 0 []) []).pi,V.bool (LV (V.lst x 0 []) []).rq,V.bool (LV (V.lst x 0 []) []).ds,V.bool (LV
 (V.lst x 0 []) []).eb,V.bool (LV (V.lst x 0 []) []).si,V.int IntKind.i64 (LV (V.lst x 0 []) []).mo],Blk.ro false [V.str fi],Blk.ro false [V.str fi],Blk.dead,
 Blk.dead,Blk.ro false [V.str fi],Blk.ro false ([]++List.take (((IntKind.i64.wrap c).toNat-0)*1) ([]:List V)++[V.str fi])]then bif (LV (V.slice 6 0 (0+
 ((IntKind.i64.wrap c).toNat-0)+1) false 0 0) [Blk.ro false [V.bool (LV (V.lst x 0 []) []).st,V.bool (LV (V.lst x 0 []) []).pi,V.bool (LV (V.lst x 0 []) []).rq,
 V.bool (LV (V.lst x 0 []) []).ds,V.bool (LV (V.lst x 0 []) []).eb,V.bool (LV (V.lst x 0 []) []).si,V.int IntKind.i64 (LV (V.lst x 0 []) []).mo],Blk.ro false [V.str
 fi],Blk.ro false [V.str fi],Blk.dead,Blk.dead,Blk.ro false [V.str fi],Blk.ro false ([]++List.take (((IntKind.i64.wrap c).toNat-0)*1) ([]:List V)++[V.str
 fi])]).st==(LV (V.lst x 0 []) []).st then bif (LV (V.slice 6 0 (0+((IntKind.i64.wrap c).toNat-0)+1) false 0 0) [Blk.ro false [V.bool (LV (V.lst x 0 []) []).st,
 V.bool (LV (V.lst x 0 []) []).pi,V.bool (LV (V.lst x 0 []) []).rq,V.bool (LV (V.lst x 0 []) []).ds,V.bool (LV (V.lst x 0 []) []).eb,V.bool (LV (V.lst x 0 []) []).si,
 V.int IntKind.i64 (LV (V.lst x 0 []) []).mo],Blk.ro false [V.str fi],Blk.ro false [V.str fi],Blk.dead,Blk.dead,Blk.ro false [V.str fi],Blk.ro false ([]++List.take
 (((IntKind.i64.wrap c).toNat-0)*1) ([]:List V)++[V.str fi])]).pi==(LV (V.lst x 0 []) []).pi then bif (LV (V.slice 6 0 (0+((IntKind.i64.wrap c).toNat-0)+1)
 false 0 0) [Blk.ro false [V.bool (LV (V.lst x 0 []) []).st,V.bool (LV (V.lst x 0 []) []).pi,V.bool (LV (V.lst x 0 []) []).rq,V.bool (LV (V.lst x 0 []) []).ds,V.bool
 (LV (V.lst x 0 []) []).eb,V.bool (LV (V.lst x 0 []) []).si,V.int IntKind.i64 (LV (V.lst x 0 []) []).mo],Blk.ro false [V.str fi],Blk.ro false [V.str fi],Blk.dead,
 Blk.dead,Blk.ro false [V.str fi],Blk.ro false ([]++List.take (((IntKind.i64.wrap c).toNat-0)*1) ([]:List V)++[V.str fi])]).rq==(LV (V.lst x 0 []) []).rq
 then bif (LV (V.slice 6 0 (0+((IntKind.i64.wrap c).toNat-0)+1) false 0 0) [Blk.ro false [V.bool (LV (V.lst x 0 []) []).st,V.bool (LV (V.lst x 0 []) []).pi,V.bool
 (LV (V.lst x 0 []) []).rq,V.bool (LV (V.lst x 0 []) []).ds,V.bool (LV (V.lst x 0 []) []).eb,V.bool (LV (V.lst x 0 []) []).si,V.int IntKind.i64 (LV (V.lst x 0 [])
 []).mo],Blk.ro false [V.str fi],Blk.ro false [V.str fi],Blk.dead,Blk.dead,Blk.ro false [V.str fi],Blk.ro false ([]++List.take (((IntKind.i64.wrap c).toNat-0)*
 1) ([]:List V)++[V.str fi])]).ds==(LV (V.lst x 0 []) []).ds then bif (LV (V.slice 6 0 (0+((IntKind.i64.wrap c).toNat-0)+1) false 0 0) [Blk.ro false [V.bool
 (LV (V.lst x 0 []) []).st,V.bool (LV (V.lst x 0 []) []).pi,V.bool (LV (V.lst x 0 []) []).rq,V.bool (LV (V.lst x 0 []) []).ds,V.bool (LV (V.lst x 0 []) []).eb,V.bool
 (LV (V.lst x 0 []) []).si,V.int IntKind.i64 (LV (V.lst x 0 []) []).mo],Blk.ro false [V.str fi],Blk.ro false [V.str fi],Blk.dead,Blk.dead,Blk.ro false [V.str fi],
 Blk.ro false ([]++List.take (((IntKind.i64.wrap c).toNat-0)*1) ([]:List V)++[V.str fi])]).eb==(LV (V.lst x 0 []) []).eb then bif (LV (V.slice 6 0 (0+
 ((IntKind.i64.wrap c).toNat-0)+1) false 0 0) [Blk.ro false [V.bool (LV (V.lst x 0 []) []).st,V.bool (LV (V.lst x 0 []) []).pi,V.bool (LV (V.lst x 0 []) []).rq,
 V.bool (LV (V.lst x 0 []) []).ds,V.bool (LV (V.lst x 0 []) []).eb,V.bool (LV (V.lst x 0 []) []).si,V.int IntKind.i64 (LV (V.lst x 0 []) []).mo],Blk.ro false [V.str
 fi],Blk.ro false [V.str fi],Blk.dead,Blk.dead,Blk.ro false [V.str fi],Blk.ro false ([]++List.take (((IntKind.i64.wrap c).toNat-0)*1) ([]:List V)++[V.str
 fi])]).si==(LV (V.lst x 0 []) []).si then bif (LV (V.slice 6 0 (0+((IntKind.i64.wrap c).toNat-0)+1) false 0 0) [Blk.ro false [V.bool (LV (V.lst x 0 []) []).st,
 V.bool (LV (V.lst x 0 []) []).pi,V.bool (LV (V.lst x 0 []) []).rq,V.bool (LV (V.lst x 0 []) []).ds,V.bool (LV (V.lst x 0 []) []).eb,V.bool (LV (V.lst x 0 []) []).si,
 V.int IntKind.i64 (LV (V.lst x 0 []) []).mo],Blk.ro false [V.str fi],Blk.ro false [V.str fi],Blk.dead,Blk.dead,Blk.ro false [V.str fi],Blk.ro false ([]++List.take
 (((IntKind.i64.wrap c).toNat-0)*1) ([]:List V)++[V.str fi])]).mo==(LV (V.lst x 0 []) []).mo then R (V.bool true)else R (V.bool false)else R (V.bool false)
 else R (V.bool false)else R (V.bool false)else R (V.bool false)else R (V.bool false)else R (V.bool false)else False else False else bif (List.take ((0-
 (IntKind.i64.wrap c).toNat)*1) (List.drop ((IntKind.i64.wrap c).toNat*1) ([]:List V))).length.beq ((0-(IntKind.i64.wrap c).toNat)*1)&&(List.take ((0-
 (IntKind.i64.wrap c).toNat)*1) (List.drop ((IntKind.i64.wrap c).toNat*1) ([]:List V))).all V.one then bif ([]++List.take (((IntKind.i64.wrap c).toNat-0)*1)
 ([]:List V)++[V.str fi]).length.beq ((0+((IntKind.i64.wrap c).toNat-0)+1)*1)then bif (0+((IntKind.i64.wrap c).toNat-0)+1+(0-(IntKind.i64.wrap
 c).toNat)).ble 9223372036854775807&&((0+((IntKind.i64.wrap c).toNat-0)+1+(0-(IntKind.i64.wrap c).toNat))*16).ble 140737488355328 then bif flatL ([]++
 List.take (((IntKind.i64.wrap c).toNat-0)*1) ([]:List V)++[V.str fi]++List.take ((0-(IntKind.i64.wrap c).toNat)*1) (List.drop ((IntKind.i64.wrap c).toNat*
 1) ([]:List V)))&&true then bif OK (V.slice 7 0 (0+((IntKind.i64.wrap c).toNat-0)+1+(0-(IntKind.i64.wrap c).toNat)) false 0 0) [Blk.ro false [V.bool (LV
 (V.lst x 0 []) []).st,V.bool (LV (V.lst x 0 []) []).pi,V.bool (LV (V.lst x 0 []) []).rq,V.bool (LV (V.lst x 0 []) []).ds,V.bool (LV (V.lst x 0 []) []).eb,V.bool (LV
 (V.lst x 0 []) []).si,V.int IntKind.i64 (LV (V.lst x 0 []) []).mo],Blk.ro false [V.str fi],Blk.ro false [V.str fi],Blk.dead,Blk.dead,Blk.ro false [V.str fi],
 Blk.dead,Blk.ro false ([]++List.take (((IntKind.i64.wrap c).toNat-0)*1) ([]:List V)++[V.str fi]++List.take ((0-(IntKind.i64.wrap c).toNat)*1) (List.drop
 ((IntKind.i64.wrap c).toNat*1) ([]:List V)))]then bif (LV (V.slice 7 0 (0+((IntKind.i64.wrap c).toNat-0)+1+(0-(IntKind.i64.wrap c).toNat)) false 0 0)
 [Blk.ro false [V.bool (LV (V.lst x 0 []) []).st,V.bool (LV (V.lst x 0 []) []).pi,V.bool (LV (V.lst x 0 []) []).rq,V.bool (LV (V.lst x 0 []) []).ds,V.bool (LV (V.lst x
 0 []) []).eb,V.bool (LV (V.lst x 0 []) []).si,V.int IntKind.i64 (LV (V.lst x 0 []) []).mo],Blk.ro false [V.str fi],Blk.ro false [V.str fi],Blk.dead,Blk.dead,Blk.ro
 false [V.str fi],Blk.dead,Blk.ro false ([]++List.take (((IntKind.i64.wrap c).toNat-0)*1) ([]:List V)++[V.str fi]++List.take ((0-(IntKind.i64.wrap
 c).toNat)*1) (List.drop ((IntKind.i64.wrap c).toNat*1) ([]:List V)))]).st==(LV (V.lst x 0 []) []).st then bif (LV (V.slice 7 0 (0+((IntKind.i64.wrap c).toNat-
 0)+1+(0-(IntKind.i64.wrap c).toNat)) false 0 0) [Blk.ro false [V.bool (LV (V.lst x 0 []) []).st,V.bool (LV (V.lst x 0 []) []).pi,V.bool (LV (V.lst x 0 []) []).rq,
 V.bool (LV (V.lst x 0 []) []).ds,V.bool (LV (V.lst x 0 []) []).eb,V.bool (LV (V.lst x 0 []) []).si,V.int IntKind.i64 (LV (V.lst x 0 []) []).mo],Blk.ro false [V.str
 fi],Blk.ro false [V.str fi],Blk.dead,Blk.dead,Blk.ro false [V.str fi],Blk.dead,Blk.ro false ([]++List.take (((IntKind.i64.wrap c).toNat-0)*1) ([]:List V)++
 [V.str fi]++List.take ((0-(IntKind.i64.wrap c).toNat)*1) (List.drop ((IntKind.i64.wrap c).toNat*1) ([]:List V)))]).pi==(LV (V.lst x 0 []) []).pi then bif (LV
 (V.slice 7 0 (0+((IntKind.i64.wrap c).toNat-0)+1+(0-(IntKind.i64.wrap c).toNat)) false 0 0) [Blk.ro false [V.bool (LV (V.lst x 0 []) []).st,V.bool (LV (V.lst x
 0 []) []).pi,V.bool (LV (V.lst x 0 []) []).rq,V.bool (LV (V.lst x 0 []) []).ds,V.bool (LV (V.lst x 0 []) []).eb,V.bool (LV (V.lst x 0 []) []).si,V.int IntKind.i64
 (LV (V.lst x 0 []) []).mo],Blk.ro false [V.str fi],Blk.ro false [V.str fi],Blk.dead,Blk.dead,Blk.ro false [V.str fi],Blk.dead,Blk.ro false ([]++List.take
 (((IntKind.i64.wrap c).toNat-0)*1) ([]:List V)++[V.str fi]++List.take ((0-(IntKind.i64.wrap c).toNat)*1) (List.drop ((IntKind.i64.wrap c).toNat*1) ([]:
 List V)))]).rq==(LV (V.lst x 0 []) []).rq then bif (LV (V.slice 7 0 (0+((IntKind.i64.wrap c).toNat-0)+1+(0-(IntKind.i64.wrap c).toNat)) false 0 0) [Blk.ro
 false [V.bool (LV (V.lst x 0 []) []).st,V.bool (LV (V.lst x 0 []) []).pi,V.bool (LV (V.lst x 0 []) []).rq,V.bool (LV (V.lst x 0 []) []).ds,V.bool (LV (V.lst x 0 [])
 []).eb,V.bool (LV (V.lst x 0 []) []).si,V.int IntKind.i64 (LV (V.lst x 0 []) []).mo],Blk.ro false [V.str fi],Blk.ro false [V.str fi],Blk.dead,Blk.dead,Blk.ro false
 [V.str fi],Blk.dead,Blk.ro false ([]++List.take (((IntKind.i64.wrap c).toNat-0)*1) ([]:List V)++[V.str fi]++List.take ((0-(IntKind.i64.wrap c).toNat)*1)
 (List.drop ((IntKind.i64.wrap c).toNat*1) ([]:List V)))]).ds==(LV (V.lst x 0 []) []).ds then bif (LV (V.slice 7 0 (0+((IntKind.i64.wrap c).toNat-0)+1+(0-
 (IntKind.i64.wrap c).toNat)) false 0 0) [Blk.ro false [V.bool (LV (V.lst x 0 []) []).st,V.bool (LV (V.lst x 0 []) []).pi,V.bool (LV (V.lst x 0 []) []).rq,V.bool (LV
 (V.lst x 0 []) []).ds,V.bool (LV (V.lst x 0 []) []).eb,V.bool (LV (V.lst x 0 []) []).si,V.int IntKind.i64 (LV (V.lst x 0 []) []).mo],Blk.ro false [V.str fi],Blk.ro
 false [V.str fi],Blk.dead,Blk.dead,Blk.ro false [V.str fi],Blk.dead,Blk.ro false ([]++List.take (((IntKind.i64.wrap c).toNat-0)*1) ([]:List V)++[V.str fi]
 ++List.take ((0-(IntKind.i64.wrap c).toNat)*1) (List.drop ((IntKind.i64.wrap c).toNat*1) ([]:List V)))]).eb==(LV (V.lst x 0 []) []).eb then bif (LV (V.slice 7
 0 (0+((IntKind.i64.wrap c).toNat-0)+1+(0-(IntKind.i64.wrap c).toNat)) false 0 0) [Blk.ro false [V.bool (LV (V.lst x 0 []) []).st,V.bool (LV (V.lst x 0 [])
 []).pi,V.bool (LV (V.lst x 0 []) []).rq,V.bool (LV (V.lst x 0 []) []).ds,V.bool (LV (V.lst x 0 []) []).eb,V.bool (LV (V.lst x 0 []) []).si,V.int IntKind.i64 (LV
 (V.lst x 0 []) []).mo],Blk.ro false [V.str fi],Blk.ro false [V.str fi],Blk.dead,Blk.dead,Blk.ro false [V.str fi],Blk.dead,Blk.ro false ([]++List.take
 (((IntKind.i64.wrap c).toNat-0)*1) ([]:List V)++[V.str fi]++List.take ((0-(IntKind.i64.wrap c).toNat)*1) (List.drop ((IntKind.i64.wrap c).toNat*1) ([]:
 List V)))]).si==(LV (V.lst x 0 []) []).si then bif (LV (V.slice 7 0 (0+((IntKind.i64.wrap c).toNat-0)+1+(0-(IntKind.i64.wrap c).toNat)) false 0 0) [Blk.ro
 false [V.bool (LV (V.lst x 0 []) []).st,V.bool (LV (V.lst x 0 []) []).pi,V.bool (LV (V.lst x 0 []) []).rq,V.bool (LV (V.lst x 0 []) []).ds,V.bool (LV (V.lst x 0 [])
 []).eb,V.bool (LV (V.lst x 0 []) []).si,V.int IntKind.i64 (LV (V.lst x 0 []) []).mo],Blk.ro false [V.str fi],Blk.ro false [V.str fi],Blk.dead,Blk.dead,Blk.ro false
 [V.str fi],Blk.dead,Blk.ro false ([]++List.take (((IntKind.i64.wrap c).toNat-0)*1) ([]:List V)++[V.str fi]++List.take ((0-(IntKind.i64.wrap c).toNat)*1)
 (List.drop ((IntKind.i64.wrap c).toNat*1) ([]:List V)))]).mo==(LV (V.lst x 0 []) []).mo then R (V.bool true)else R (V.bool false)else R (V.bool false)else R
 (V.bool false)else R (V.bool false)else R (V.bool false)else R (V.bool false)else R (V.bool false)else False else False else False else False else False else False
 else False else False else False else False else False else False else False else False else False else R (V.bool true)else R (V.bool true)else R (V.bool true)else R
 (V.bool true)else R (V.bool true)else R (V.bool true)else R (V.bool true)else False else R (V.bool false)else R (V.bool false)else R (V.bool false)else R (V.bool
 false)else R (V.bool false)else R (V.bool false)else R (V.bool false)else False else R (V.bool false)else R (V.bool false)else R (V.bool false)else R (V.bool
 false)else R (V.bool false)else R (V.bool false)else R (V.bool false)else False else False else False):=by kernel_rfl
theorem say_app(l e:List (List UInt8)):sayC (l++e)=uniC (sayC l) (sayC e):=by
 unfold sayC;rw[lines_app,lines_uni]
theorem loN_ge:∀(l:List (List UInt8)) (n:Nat),n+10*l.length≤loN n l∨9000≤loN n l
 |[],n=>.inl (by simp[loN])
 |s::r,n=>by
  rw[loN];split
  ·rcases loN_ge r (n+10+min 9000 s.length)with h|h
   ·exact .inl (by rw[List.length_cons];omega)
   ·exact .inr h
  ·exact .inr (by omega)
theorem loN_mono:∀(l:List (List UInt8)) (n:Nat),n≤loN n l
 |[],n=>Nat.le_refl _
 |s::r,n=>by
  rw[loN];split
  ·have:=loN_mono r (n+10+min 9000 s.length);omega
  ·exact Nat.le_refl _
theorem loN_all:∀(l:List (List UInt8)) (n:Nat),loN n l<9000→∀s∈l,s.length<9000
 |[],_,_,s,hs=>by cases hs
 |c::r,n,h,s,hs=>by
  rw[loN]at h;split at h
  ·have:=loN_mono r (n+10+min 9000 c.length);rcases List.mem_cons.1 hs with rfl|hs
   ·omega
   ·exact loN_all r _ h s hs
  ·omega
theorem not_long{l:List (List UInt8)}(h:longS l=false):l.length≤900∧l.all shortS=true:=by
 have h:=of_decide_eq_false h;refine⟨by rcases loN_ge l 0 with h1|h1<;>omega,?_⟩;rw[List.all_eq_true];intro s hs;have:=loN_all l 0 (by omega) s hs;exact Nat.ble_eq_true_of_le (by omega)
theorem lines_turn(w:Int):∀(l:List (List UInt8)) (c:CP),linesU numV numE (clT w l) c=linesU numV numE l c
 |[],_=>rfl
 |s::r,c=>by
  show linesU numV numE (clT w r) (lineU numV numE (up (turnF w 0 s)) c)=_;rw[turn_up,lines_turn w r];rfl
theorem say_turn(w:Int)(l:List (List UInt8)):sayC (clT w l)=sayC l:=lines_turn w l cp0
theorem turn_short(w:Int)(l:List (List UInt8))(h:l.all shortS=true):(clT w l).all shortS=true:=by
 unfold clT;rw[List.all_map,List.all_eq_true];intro s hs;have:=Nat.le_of_ble_eq_true (List.all_eq_true.1 h s hs);exact Nat.ble_eq_true_of_le (by rw[turn_len];exact this)
theorem view_at{st:St}{k n c z:Nat}{ex own:Bool}{t:TypeId}{q:List (List UInt8)}(hk:st[k]?=some (.ro own (strs q))∨st[k]?=some (.row (strs q) t 1))(hn:n=q.length):viewS st (.slice k 0 n ex c z)=some (true,q):=by
 subst hn;have h1:((strs q).drop 0).take (q.length*1)=strs q:=by rw[List.drop_zero,List.take_of_length_le (by rw[strs_len];omega)]
 have h2:Nat.ble (0+q.length*1) q.length=true:=Nat.ble_eq_true_of_le (by omega);rcases hk with hk|hk<;>simp only[viewS,viewC,hk,h1,h2,strs_len,strs_isStr,strs_strOf,Nat.beq_refl,Bool.and_self]
theorem olr{st:St}{k n c z:Nat}{ex own:Bool}{t:TypeId}(q:List (List UInt8))(hk:st[k]?=some (.ro own (strs q))∨st[k]?=some (.row (strs q) t 1))(hn:n=q.length)(h1:q.length≤100000)(h2:q.all shortS=true):olOK (.slice k 0 n ex c z) st=true∧olV (.slice k 0 n ex c z) st=sayC q:=ol_view (view_at hk hn) h1 h2
theorem ofr{st:St}{k n c z:Nat}{ex own:Bool}{t:TypeId}(q:List (List UInt8))(co:Int)(hk:st[k]?=some (.ro own (strs q))∨st[k]?=some (.row (strs q) t 1))(hn:n=q.length)(h1:q.length≤100000)(h2:q.all shortS=true):ofOK (.slice k 0 n ex c z) st=true∧ofV co (.slice k 0 n ex c z) st=ofC co q:=by
 obtain⟨k1,k2⟩:=of_view (view_at (ex:=ex) (c:=c) (z:=z) hk hn) (by omega) h2;exact⟨k1,k2 co⟩
theorem say_nothing{f:CP}(h1:(f.st==false)=true)(h2:(f.pi==false)=true)(h3:(f.rq==false)=true)(h4:(f.ds==false)=true)(h5:(f.eb==false)=true)(h6:(f.si==false)=true)(h7:(f.mo==0)=true):f=cp0:=by
 obtain⟨a1,a2,a3,a4,a5,a6,am⟩:=f;cases eq_of_beq h1;cases eq_of_beq h2;cases eq_of_beq h3;cases eq_of_beq h4;cases eq_of_beq h5;cases eq_of_beq h6;cases eq_of_beq h7;rfl
theorem say_put{l:List (List UInt8)}{f:List UInt8}(C:Nat)(h:sayC [f]=cp0):sayC (l.take C++f::l.drop C)=sayC l:=by
 rw[show f::l.drop C=[f]++l.drop C from rfl,say_app,say_app,h,zero_uni,←say_app,List.take_append_drop]
theorem of_not{co:Int}(h:(co !=250)=true)(q:List (List UInt8)):ofC co q=cp0:=by
 unfold ofC;have e:(co==250)=false:=by cases he:(co==250)with
  |false=>rfl
  |true=>have h:(!(co==250))=true:=h;rw[he]at h;cases h
 rw[e];rfl
theorem take_strs(q:List (List UInt8))(n:Nat):(strs q).take n=strs (q.take n):=by unfold strs;rw[List.map_take]
theorem drop_strs(q:List (List UInt8))(n:Nat):(strs q).drop n=strs (q.drop n):=by unfold strs;rw[List.map_drop]
theorem cl_closeA(x:Value)(w nu:Int)(fi:List UInt8)(a:Int):FnSat Tryd.prog 4 [.lst x 0 [],.int .u64 w,.int .i64 nu,.str fi,.int .i64 a] [] (fun v _=>v=.bool true):=by
 refine runW_ok (Z:=lzR) (lim:=9) (n:=10) mixed CLT_ok ?_;rw[cl_lawA];have hO:loOK (.lst x 0 []) []=true:=rfl;have hB:loB (.lst x 0 []) []=false:=rfl;rw[hO,hB,cond_true,cond_false];refine bif_intro (fun _=>rfl) (fun hf=>⟨cl_fits0 x 0 [] w nu fi a 0 _,?_⟩);have hf:shortS fi=true:=Nat.ble_eq_true_of_le (by have:=of_decide_eq_false hf;omega);have k1:olOK (.lst x 0 []) []=true∧olV (.lst x 0 []) []=sayC []:=ol_view (q:=[]) (view_lst (l:=[]) rfl) (by simp) rfl;have kn:olOK .nilSlice []=true∧olV .nilSlice []=sayC []:=ol_view (q:=[]) rfl (by simp) rfl;have q1:([fi]:List (List UInt8)).all shortS=true:=by rw[List.all_cons,hf];rfl
 rw[k1.1,k1.2,kn.1,kn.2];simp only[beq_self_eq_true,cond_true];refine must_intro (ofr (own:=false) (t:=9) ([fi]) 250 (by first|exact .inl rfl|exact .inr rfl) rfl (by simp) q1).1 ?_;rw[(ofr (own:=false) (t:=9) ([fi]) 250 ?_ ?_ (by simp) q1).2]
 rotate_left
 ·first|exact .inl rfl|exact .inr rfl
 ·rfl
 rw[show ofC 250 [fi]=sayC []from rfl];simp only[beq_self_eq_true,cond_true];refine bif_intro (fun hnu=>?_) (fun hnu=>?_)
 ·skip
  refine must_intro (ofr (own:=false) (t:=9) ([fi]) nu (by first|exact .inl rfl|exact .inr rfl) rfl (by simp) q1).1 ?_;rw[(ofr (own:=false) (t:=9) ([fi]) nu ?_ ?_ (by simp) q1).2]
  rotate_left
  ·first|exact .inl rfl|exact .inr rfl
  ·rfl
  rw[of_not hnu];simp only[cp0,beq_self_eq_true,cond_true];intro c hc;have hc0:c=0:=by rw[hc];exact Int.tmod_one _
  subst hc0;refine must_intro (olr (own:=false) (t:=9) ([fi]) (by first|exact .inl rfl|exact .inr rfl) rfl (by simp) q1).1 ?_;rw[(olr (own:=false) (t:=9) ([fi]) ?_ ?_ (by simp) q1).2]
  rotate_left
  ·first|exact .inl rfl|exact .inr rfl
  ·rfl
  skip
  refine bif_intro (fun h1=>bif_intro (fun h2=>bif_intro (fun h3=>bif_intro (fun h4=>bif_intro (fun h5=>bif_intro (fun h6=>bif_intro (fun h7=>?_) (fun _=>trivial)) (fun _=>trivial)) (fun _=>trivial)) (fun _=>trivial)) (fun _=>trivial)) (fun _=>trivial)) (fun _=>trivial);have hf0:=say_nothing h1 h2 h3 h4 h5 h6 h7;refine must_intro rfl (must_intro rfl ?_);simp only[show Nat.beq ((IntKind.i64.wrap 0).toNat-0) 0=true from rfl,show Nat.beq (0-(IntKind.i64.wrap 0).toNat) 0=true from rfl,show decide ((0:Int)≤IntKind.i64.wrap 0)=true from rfl,show(Nat.ble (IntKind.i64.wrap 0).toNat 0&&true)=true from rfl,cond_true];refine must_intro (olr (own:=false) (t:=9) ([fi]) (by first|exact .inl rfl|exact .inr rfl) rfl (by simp) q1).1 ?_;rw[(olr (own:=false) (t:=9) ([fi]) ?_ ?_ (by simp) q1).2]
  rotate_left
  ·first|exact .inl rfl|exact .inr rfl
  ·rfl
  rw[hf0,show cp0=sayC []from rfl];simp only[beq_self_eq_true,cond_true]
 ·skip
  intro c hc;have hc0:c=0:=by rw[hc];exact Int.tmod_one _
  subst hc0;refine must_intro (olr (own:=false) (t:=9) ([fi]) (by first|exact .inl rfl|exact .inr rfl) rfl (by simp) q1).1 ?_;rw[(olr (own:=false) (t:=9) ([fi]) ?_ ?_ (by simp) q1).2]
  rotate_left
  ·first|exact .inl rfl|exact .inr rfl
  ·rfl
  skip
  refine bif_intro (fun h1=>bif_intro (fun h2=>bif_intro (fun h3=>bif_intro (fun h4=>bif_intro (fun h5=>bif_intro (fun h6=>bif_intro (fun h7=>?_) (fun _=>trivial)) (fun _=>trivial)) (fun _=>trivial)) (fun _=>trivial)) (fun _=>trivial)) (fun _=>trivial)) (fun _=>trivial);have hf0:=say_nothing h1 h2 h3 h4 h5 h6 h7;refine must_intro rfl (must_intro rfl ?_);simp only[show Nat.beq ((IntKind.i64.wrap 0).toNat-0) 0=true from rfl,show Nat.beq (0-(IntKind.i64.wrap 0).toNat) 0=true from rfl,show decide ((0:Int)≤IntKind.i64.wrap 0)=true from rfl,show(Nat.ble (IntKind.i64.wrap 0).toNat 0&&true)=true from rfl,cond_true];refine must_intro (olr (own:=false) (t:=9) ([fi]) (by first|exact .inl rfl|exact .inr rfl) rfl (by simp) q1).1 ?_;rw[(olr (own:=false) (t:=9) ([fi]) ?_ ?_ (by simp) q1).2]
  rotate_left
  ·first|exact .inl rfl|exact .inr rfl
  ·rfl
  rw[hf0,show cp0=sayC []from rfl];simp only[beq_self_eq_true,cond_true]
theorem cl_lawB(LOK LB OK:V→St→Bool)(LV:V→St→CP)(OFK:V→St→Bool)(OFV:Int→V→St→CP)(x:Value)(k:Nat)(cs:List V)(w nu:Int)(fi:List UInt8)(a:Int)(R:V→Prop):runW (Z:=lzR) Tryd.prog (CLT LOK LB OK LV OFK OFV) 9 10 4 [.lst x (k+1) cs,.int .u64 w,.int .i64 nu,.str fi,.int .i64 a] R=
  (
 bif LOK (V.lst x (k+1) cs) []then bif LB (V.lst x (k+1) cs) []then R (V.bool true)else bif decide ((↑fi.length:Int)>5000)then R (V.bool true)else Fits 0
 [V.lst x (k+1) cs,V.int IntKind.u64 w,V.int IntKind.i64 nu,V.str fi,V.int IntKind.i64 a,V.nilSlice,V.int IntKind.i64 0] [] [some (V.lst x (k+1) cs),some (V.int
 IntKind.u64 w),some (V.int IntKind.i64 nu),some (V.str fi),some (V.int IntKind.i64 a),some V.nilSlice,some (V.int IntKind.i64 0)] []∧bif clPre {x:=x,n:=k+1,cs:=cs,w:=w,nu:=nu,fi:=fi,a:=a,i:=0}
 then bif OK (V.lst x (k+1) cs) []then bif OK (V.slice 0 0 (k+1) false 0 0) [Blk.ro false (clF w cs),Blk.ro false [V.bool (LV (V.lst x (k+1) cs) []).st,V.bool (LV
 (V.lst x (k+1) cs) []).pi,V.bool (LV (V.lst x (k+1) cs) []).rq,V.bool (LV (V.lst x (k+1) cs) []).ds,V.bool (LV (V.lst x (k+1) cs) []).eb,V.bool (LV (V.lst x
 (k+1) cs) []).si,V.int IntKind.i64 (LV (V.lst x (k+1) cs) []).mo]]then bif (LV (V.slice 0 0 (k+1) false 0 0) [Blk.ro false (clF w cs),Blk.ro false [V.bool (LV
 (V.lst x (k+1) cs) []).st,V.bool (LV (V.lst x (k+1) cs) []).pi,V.bool (LV (V.lst x (k+1) cs) []).rq,V.bool (LV (V.lst x (k+1) cs) []).ds,V.bool (LV (V.lst x
 (k+1) cs) []).eb,V.bool (LV (V.lst x (k+1) cs) []).si,V.int IntKind.i64 (LV (V.lst x (k+1) cs) []).mo]]).st==(LV (V.lst x (k+1) cs) []).st then bif (LV
 (V.slice 0 0 (k+1) false 0 0) [Blk.ro false (clF w cs),Blk.ro false [V.bool (LV (V.lst x (k+1) cs) []).st,V.bool (LV (V.lst x (k+1) cs) []).pi,V.bool (LV (V.lst
 x (k+1) cs) []).rq,V.bool (LV (V.lst x (k+1) cs) []).ds,V.bool (LV (V.lst x (k+1) cs) []).eb,V.bool (LV (V.lst x (k+1) cs) []).si,V.int IntKind.i64 (LV (V.lst
 x (k+1) cs) []).mo]]).pi==(LV (V.lst x (k+1) cs) []).pi then bif (LV (V.slice 0 0 (k+1) false 0 0) [Blk.ro false (clF w cs),Blk.ro false [V.bool (LV (V.lst x (k
 +1) cs) []).st,V.bool (LV (V.lst x (k+1) cs) []).pi,V.bool (LV (V.lst x (k+1) cs) []).rq,V.bool (LV (V.lst x (k+1) cs) []).ds,V.bool (LV (V.lst x (k+1) cs)
 []).eb,V.bool (LV (V.lst x (k+1) cs) []).si,V.int IntKind.i64 (LV (V.lst x (k+1) cs) []).mo]]).rq==(LV (V.lst x (k+1) cs) []).rq then bif (LV (V.slice 0 0 (k+
 1) false 0 0) [Blk.ro false (clF w cs),Blk.ro false [V.bool (LV (V.lst x (k+1) cs) []).st,V.bool (LV (V.lst x (k+1) cs) []).pi,V.bool (LV (V.lst x (k+1) cs)
 []).rq,V.bool (LV (V.lst x (k+1) cs) []).ds,V.bool (LV (V.lst x (k+1) cs) []).eb,V.bool (LV (V.lst x (k+1) cs) []).si,V.int IntKind.i64 (LV (V.lst x (k+1) cs)
 []).mo]]).ds==(LV (V.lst x (k+1) cs) []).ds then bif (LV (V.slice 0 0 (k+1) false 0 0) [Blk.ro false (clF w cs),Blk.ro false [V.bool (LV (V.lst x (k+1) cs)
 []).st,V.bool (LV (V.lst x (k+1) cs) []).pi,V.bool (LV (V.lst x (k+1) cs) []).rq,V.bool (LV (V.lst x (k+1) cs) []).ds,V.bool (LV (V.lst x (k+1) cs) []).eb,
 V.bool (LV (V.lst x (k+1) cs) []).si,V.int IntKind.i64 (LV (V.lst x (k+1) cs) []).mo]]).eb==(LV (V.lst x (k+1) cs) []).eb then bif (LV (V.slice 0 0 (k+1) false
 0 0) [Blk.ro false (clF w cs),Blk.ro false [V.bool (LV (V.lst x (k+1) cs) []).st,V.bool (LV (V.lst x (k+1) cs) []).pi,V.bool (LV (V.lst x (k+1) cs) []).rq,
 V.bool (LV (V.lst x (k+1) cs) []).ds,V.bool (LV (V.lst x (k+1) cs) []).eb,V.bool (LV (V.lst x (k+1) cs) []).si,V.int IntKind.i64 (LV (V.lst x (k+1) cs)
 []).mo]]).si==(LV (V.lst x (k+1) cs) []).si then bif (LV (V.slice 0 0 (k+1) false 0 0) [Blk.ro false (clF w cs),Blk.ro false [V.bool (LV (V.lst x (k+1) cs)
 []).st,V.bool (LV (V.lst x (k+1) cs) []).pi,V.bool (LV (V.lst x (k+1) cs) []).rq,V.bool (LV (V.lst x (k+1) cs) []).ds,V.bool (LV (V.lst x (k+1) cs) []).eb,
 V.bool (LV (V.lst x (k+1) cs) []).si,V.int IntKind.i64 (LV (V.lst x (k+1) cs) []).mo]]).mo==(LV (V.lst x (k+1) cs) []).mo then bif cs.length.beq ((k+1)*1)&&
 cs.all V.one then bif (1+(k+1)).ble 9223372036854775807&&((1+(k+1))*16).ble 140737488355328 then bif OFK (V.slice 3 0 (1+(k+1)) false 0 0) [Blk.ro false
 (clF w cs),Blk.ro false [V.bool (LV (V.lst x (k+1) cs) []).st,V.bool (LV (V.lst x (k+1) cs) []).pi,V.bool (LV (V.lst x (k+1) cs) []).rq,V.bool (LV (V.lst x (k+
 1) cs) []).ds,V.bool (LV (V.lst x (k+1) cs) []).eb,V.bool (LV (V.lst x (k+1) cs) []).si,V.int IntKind.i64 (LV (V.lst x (k+1) cs) []).mo],Blk.ro false [V.str
 fi],Blk.ro false (V.str fi::cs)]then bif (OFV 250 (V.slice 3 0 (1+(k+1)) false 0 0) [Blk.ro false (clF w cs),Blk.ro false [V.bool (LV (V.lst x (k+1) cs)
 []).st,V.bool (LV (V.lst x (k+1) cs) []).pi,V.bool (LV (V.lst x (k+1) cs) []).rq,V.bool (LV (V.lst x (k+1) cs) []).ds,V.bool (LV (V.lst x (k+1) cs) []).eb,
 V.bool (LV (V.lst x (k+1) cs) []).si,V.int IntKind.i64 (LV (V.lst x (k+1) cs) []).mo],Blk.ro false [V.str fi],Blk.ro false (V.str fi::cs)]).st==(LV (V.lst x (k
 +1) cs) []).st then bif (OFV 250 (V.slice 3 0 (1+(k+1)) false 0 0) [Blk.ro false (clF w cs),Blk.ro false [V.bool (LV (V.lst x (k+1) cs) []).st,V.bool (LV (V.lst
 x (k+1) cs) []).pi,V.bool (LV (V.lst x (k+1) cs) []).rq,V.bool (LV (V.lst x (k+1) cs) []).ds,V.bool (LV (V.lst x (k+1) cs) []).eb,V.bool (LV (V.lst x (k+1)
 cs) []).si,V.int IntKind.i64 (LV (V.lst x (k+1) cs) []).mo],Blk.ro false [V.str fi],Blk.ro false (V.str fi::cs)]).pi==(LV (V.lst x (k+1) cs) []).pi then bif
 (OFV 250 (V.slice 3 0 (1+(k+1)) false 0 0) [Blk.ro false (clF w cs),Blk.ro false [V.bool (LV (V.lst x (k+1) cs) []).st,V.bool (LV (V.lst x (k+1) cs) []).pi,
 V.bool (LV (V.lst x (k+1) cs) []).rq,V.bool (LV (V.lst x (k+1) cs) []).ds,V.bool (LV (V.lst x (k+1) cs) []).eb,V.bool (LV (V.lst x (k+1) cs) []).si,V.int
 IntKind.i64 (LV (V.lst x (k+1) cs) []).mo],Blk.ro false [V.str fi],Blk.ro false (V.str fi::cs)]).rq==(LV (V.lst x (k+1) cs) []).rq then bif (OFV 250 (V.slice 3
 0 (1+(k+1)) false 0 0) [Blk.ro false (clF w cs),Blk.ro false [V.bool (LV (V.lst x (k+1) cs) []).st,V.bool (LV (V.lst x (k+1) cs) []).pi,V.bool (LV (V.lst x (k
 +1) cs) []).rq,V.bool (LV (V.lst x (k+1) cs) []).ds,V.bool (LV (V.lst x (k+1) cs) []).eb,V.bool (LV (V.lst x (k+1) cs) []).si,V.int IntKind.i64 (LV (V.lst x (k
 +1) cs) []).mo],Blk.ro false [V.str fi],Blk.ro false (V.str fi::cs)]).ds==(LV (V.lst x (k+1) cs) []).ds then bif (OFV 250 (V.slice 3 0 (1+(k+1)) false 0 0)
 [Blk.ro false (clF w cs),Blk.ro false [V.bool (LV (V.lst x (k+1) cs) []).st,V.bool (LV (V.lst x (k+1) cs) []).pi,V.bool (LV (V.lst x (k+1) cs) []).rq,V.bool (LV
 (V.lst x (k+1) cs) []).ds,V.bool (LV (V.lst x (k+1) cs) []).eb,V.bool (LV (V.lst x (k+1) cs) []).si,V.int IntKind.i64 (LV (V.lst x (k+1) cs) []).mo],Blk.ro
 false [V.str fi],Blk.ro false (V.str fi::cs)]).eb==(LV (V.lst x (k+1) cs) []).eb then bif (OFV 250 (V.slice 3 0 (1+(k+1)) false 0 0) [Blk.ro false (clF w cs),
 Blk.ro false [V.bool (LV (V.lst x (k+1) cs) []).st,V.bool (LV (V.lst x (k+1) cs) []).pi,V.bool (LV (V.lst x (k+1) cs) []).rq,V.bool (LV (V.lst x (k+1) cs)
 []).ds,V.bool (LV (V.lst x (k+1) cs) []).eb,V.bool (LV (V.lst x (k+1) cs) []).si,V.int IntKind.i64 (LV (V.lst x (k+1) cs) []).mo],Blk.ro false [V.str fi],
 Blk.ro false (V.str fi::cs)]).si==(LV (V.lst x (k+1) cs) []).si then bif (OFV 250 (V.slice 3 0 (1+(k+1)) false 0 0) [Blk.ro false (clF w cs),Blk.ro false
 [V.bool (LV (V.lst x (k+1) cs) []).st,V.bool (LV (V.lst x (k+1) cs) []).pi,V.bool (LV (V.lst x (k+1) cs) []).rq,V.bool (LV (V.lst x (k+1) cs) []).ds,V.bool
 (LV (V.lst x (k+1) cs) []).eb,V.bool (LV (V.lst x (k+1) cs) []).si,V.int IntKind.i64 (LV (V.lst x (k+1) cs) []).mo],Blk.ro false [V.str fi],Blk.ro false (V.str
 fi::cs)]).mo==(LV (V.lst x (k+1) cs) []).mo then bif nu !=250 then bif cs.length.beq ((k+1)*1)&&cs.all V.one then bif (1+(k+1)).ble 9223372036854775807
 &&((1+(k+1))*16).ble 140737488355328 then bif OFK (V.slice 5 0 (1+(k+1)) false 0 0) [Blk.row (clF w cs) 9 1,Blk.row [V.bool (LV (V.lst x (k+1) cs) []).st,
 V.bool (LV (V.lst x (k+1) cs) []).pi,V.bool (LV (V.lst x (k+1) cs) []).rq,V.bool (LV (V.lst x (k+1) cs) []).ds,V.bool (LV (V.lst x (k+1) cs) []).eb,V.bool (LV
 (V.lst x (k+1) cs) []).si,V.int IntKind.i64 (LV (V.lst x (k+1) cs) []).mo] 34 7,Blk.row [V.str fi] 9 1,Blk.row (V.str fi::cs) 9 1,Blk.dead,Blk.row (V.str fi::
 cs) 9 1]then bif (OFV nu (V.slice 5 0 (1+(k+1)) false 0 0) [Blk.row (clF w cs) 9 1,Blk.row [V.bool (LV (V.lst x (k+1) cs) []).st,V.bool (LV (V.lst x (k+1) cs)
 []).pi,V.bool (LV (V.lst x (k+1) cs) []).rq,V.bool (LV (V.lst x (k+1) cs) []).ds,V.bool (LV (V.lst x (k+1) cs) []).eb,V.bool (LV (V.lst x (k+1) cs) []).si,
 V.int IntKind.i64 (LV (V.lst x (k+1) cs) []).mo] 34 7,Blk.row [V.str fi] 9 1,Blk.row (V.str fi::cs) 9 1,Blk.dead,Blk.row (V.str fi::cs) 9 1]).st==false then
 bif (OFV nu (V.slice 5 0 (1+(k+1)) false 0 0) [Blk.row (clF w cs) 9 1,Blk.row [V.bool (LV (V.lst x (k+1) cs) []).st,V.bool (LV (V.lst x (k+1) cs) []).pi,V.bool
 (LV (V.lst x (k+1) cs) []).rq,V.bool (LV (V.lst x (k+1) cs) []).ds,V.bool (LV (V.lst x (k+1) cs) []).eb,V.bool (LV (V.lst x (k+1) cs) []).si,V.int IntKind.i64
 (LV (V.lst x (k+1) cs) []).mo] 34 7,Blk.row [V.str fi] 9 1,Blk.row (V.str fi::cs) 9 1,Blk.dead,Blk.row (V.str fi::cs) 9 1]).pi==false then bif (OFV nu
 (V.slice 5 0 (1+(k+1)) false 0 0) [Blk.row (clF w cs) 9 1,Blk.row [V.bool (LV (V.lst x (k+1) cs) []).st,V.bool (LV (V.lst x (k+1) cs) []).pi,V.bool (LV (V.lst
 x (k+1) cs) []).rq,V.bool (LV (V.lst x (k+1) cs) []).ds,V.bool (LV (V.lst x (k+1) cs) []).eb,V.bool (LV (V.lst x (k+1) cs) []).si,V.int IntKind.i64 (LV (V.lst
 x (k+1) cs) []).mo] 34 7,Blk.row [V.str fi] 9 1,Blk.row (V.str fi::cs) 9 1,Blk.dead,Blk.row (V.str fi::cs) 9 1]).rq==false then bif (OFV nu (V.slice 5 0 (1+
 (k+1)) false 0 0) [Blk.row (clF w cs) 9 1,Blk.row [V.bool (LV (V.lst x (k+1) cs) []).st,V.bool (LV (V.lst x (k+1) cs) []).pi,V.bool (LV (V.lst x (k+1) cs)
 []).rq,V.bool (LV (V.lst x (k+1) cs) []).ds,V.bool (LV (V.lst x (k+1) cs) []).eb,V.bool (LV (V.lst x (k+1) cs) []).si,V.int IntKind.i64 (LV (V.lst x (k+1) cs)
 []).mo] 34 7,Blk.row [V.str fi] 9 1,Blk.row (V.str fi::cs) 9 1,Blk.dead,Blk.row (V.str fi::cs) 9 1]).ds==false then bif (OFV nu (V.slice 5 0 (1+(k+1)) false
 0 0) [Blk.row (clF w cs) 9 1,Blk.row [V.bool (LV (V.lst x (k+1) cs) []).st,V.bool (LV (V.lst x (k+1) cs) []).pi,V.bool (LV (V.lst x (k+1) cs) []).rq,V.bool (LV
 (V.lst x (k+1) cs) []).ds,V.bool (LV (V.lst x (k+1) cs) []).eb,V.bool (LV (V.lst x (k+1) cs) []).si,V.int IntKind.i64 (LV (V.lst x (k+1) cs) []).mo] 34 7,
 Blk.row [V.str fi] 9 1,Blk.row (V.str fi::cs) 9 1,Blk.dead,Blk.row (V.str fi::cs) 9 1]).eb==false then bif (OFV nu (V.slice 5 0 (1+(k+1)) false 0 0) [Blk.row
 (clF w cs) 9 1,Blk.row [V.bool (LV (V.lst x (k+1) cs) []).st,V.bool (LV (V.lst x (k+1) cs) []).pi,V.bool (LV (V.lst x (k+1) cs) []).rq,V.bool (LV (V.lst x (k+
 1) cs) []).ds,V.bool (LV (V.lst x (k+1) cs) []).eb,V.bool (LV (V.lst x (k+1) cs) []).si,V.int IntKind.i64 (LV (V.lst x (k+1) cs) []).mo] 34 7,Blk.row [V.str fi]
 9 1,Blk.row (V.str fi::cs) 9 1,Blk.dead,Blk.row (V.str fi::cs) 9 1]).si==false then bif (OFV nu (V.slice 5 0 (1+(k+1)) false 0 0) [Blk.row (clF w cs) 9 1,
 Blk.row [V.bool (LV (V.lst x (k+1) cs) []).st,V.bool (LV (V.lst x (k+1) cs) []).pi,V.bool (LV (V.lst x (k+1) cs) []).rq,V.bool (LV (V.lst x (k+1) cs) []).ds,
 V.bool (LV (V.lst x (k+1) cs) []).eb,V.bool (LV (V.lst x (k+1) cs) []).si,V.int IntKind.i64 (LV (V.lst x (k+1) cs) []).mo] 34 7,Blk.row [V.str fi] 9 1,Blk.row
 (V.str fi::cs) 9 1,Blk.dead,Blk.row (V.str fi::cs) 9 1]).mo==0 then bif !IntKind.u64.wrap (IntKind.i64.wrap ((↑(k+1):Int)+1))==0 then ∀(c:Int),c=
 (IntKind.u64.wrap a).tmod (IntKind.u64.wrap (IntKind.i64.wrap ((↑(k+1):Int)+1)))→bif OK (V.slice 6 0 1 false 0 0) [Blk.row (clF w cs) 9 1,Blk.row [V.bool (LV
 (V.lst x (k+1) cs) []).st,V.bool (LV (V.lst x (k+1) cs) []).pi,V.bool (LV (V.lst x (k+1) cs) []).rq,V.bool (LV (V.lst x (k+1) cs) []).ds,V.bool (LV (V.lst x
 (k+1) cs) []).eb,V.bool (LV (V.lst x (k+1) cs) []).si,V.int IntKind.i64 (LV (V.lst x (k+1) cs) []).mo] 34 7,Blk.row [V.str fi] 9 1,Blk.row (V.str fi::cs) 9 1,
 Blk.dead,Blk.row (V.str fi::cs) 9 1,Blk.row [V.str fi] 9 1]then bif (LV (V.slice 6 0 1 false 0 0) [Blk.row (clF w cs) 9 1,Blk.row [V.bool (LV (V.lst x (k+1) cs)
 []).st,V.bool (LV (V.lst x (k+1) cs) []).pi,V.bool (LV (V.lst x (k+1) cs) []).rq,V.bool (LV (V.lst x (k+1) cs) []).ds,V.bool (LV (V.lst x (k+1) cs) []).eb,
 V.bool (LV (V.lst x (k+1) cs) []).si,V.int IntKind.i64 (LV (V.lst x (k+1) cs) []).mo] 34 7,Blk.row [V.str fi] 9 1,Blk.row (V.str fi::cs) 9 1,Blk.dead,Blk.row
 (V.str fi::cs) 9 1,Blk.row [V.str fi] 9 1]).st==false then bif (LV (V.slice 6 0 1 false 0 0) [Blk.row (clF w cs) 9 1,Blk.row [V.bool (LV (V.lst x (k+1) cs)
 []).st,V.bool (LV (V.lst x (k+1) cs) []).pi,V.bool (LV (V.lst x (k+1) cs) []).rq,V.bool (LV (V.lst x (k+1) cs) []).ds,V.bool (LV (V.lst x (k+1) cs) []).eb,
 V.bool (LV (V.lst x (k+1) cs) []).si,V.int IntKind.i64 (LV (V.lst x (k+1) cs) []).mo] 34 7,Blk.row [V.str fi] 9 1,Blk.row (V.str fi::cs) 9 1,Blk.dead,Blk.row
 (V.str fi::cs) 9 1,Blk.row [V.str fi] 9 1]).pi==false then bif (LV (V.slice 6 0 1 false 0 0) [Blk.row (clF w cs) 9 1,Blk.row [V.bool (LV (V.lst x (k+1) cs)
 []).st,V.bool (LV (V.lst x (k+1) cs) []).pi,V.bool (LV (V.lst x (k+1) cs) []).rq,V.bool (LV (V.lst x (k+1) cs) []).ds,V.bool (LV (V.lst x (k+1) cs) []).eb,
 V.bool (LV (V.lst x (k+1) cs) []).si,V.int IntKind.i64 (LV (V.lst x (k+1) cs) []).mo] 34 7,Blk.row [V.str fi] 9 1,Blk.row (V.str fi::cs) 9 1,Blk.dead,Blk.row
 (V.str fi::cs) 9 1,Blk.row [V.str fi] 9 1]).rq==false then bif (LV (V.slice 6 0 1 false 0 0) [Blk.row (clF w cs) 9 1,Blk.row [V.bool (LV (V.lst x (k+1) cs)
 []).st,V.bool (LV (V.lst x (k+1) cs) []).pi,V.bool (LV (V.lst x (k+1) cs) []).rq,V.bool (LV (V.lst x (k+1) cs) []).ds,V.bool (LV (V.lst x (k+1) cs) []).eb,
 V.bool (LV (V.lst x (k+1) cs) []).si,V.int IntKind.i64 (LV (V.lst x (k+1) cs) []).mo] 34 7,Blk.row [V.str fi] 9 1,Blk.row (V.str fi::cs) 9 1,Blk.dead,Blk.row
 (V.str fi::cs) 9 1,Blk.row [V.str fi] 9 1]).ds==false then bif (LV (V.slice 6 0 1 false 0 0) [Blk.row (clF w cs) 9 1,Blk.row [V.bool (LV (V.lst x (k+1) cs)
 []).st,V.bool (LV (V.lst x (k+1) cs) []).pi,V.bool (LV (V.lst x (k+1) cs) []).rq,V.bool (LV (V.lst x (k+1) cs) []).ds,V.bool (LV (V.lst x (k+1) cs) []).eb,
 V.bool (LV (V.lst x (k+1) cs) []).si,V.int IntKind.i64 (LV (V.lst x (k+1) cs) []).mo] 34 7,Blk.row [V.str fi] 9 1,Blk.row (V.str fi::cs) 9 1,Blk.dead,Blk.row
 (V.str fi::cs) 9 1,Blk.row [V.str fi] 9 1]).eb==false then bif (LV (V.slice 6 0 1 false 0 0) [Blk.row (clF w cs) 9 1,Blk.row [V.bool (LV (V.lst x (k+1) cs)
 []).st,V.bool (LV (V.lst x (k+1) cs) []).pi,V.bool (LV (V.lst x (k+1) cs) []).rq,V.bool (LV (V.lst x (k+1) cs) []).ds,V.bool (LV (V.lst x (k+1) cs) []).eb,
 V.bool (LV (V.lst x (k+1) cs) []).si,V.int IntKind.i64 (LV (V.lst x (k+1) cs) []).mo] 34 7,Blk.row [V.str fi] 9 1,Blk.row (V.str fi::cs) 9 1,Blk.dead,Blk.row
 (V.str fi::cs) 9 1,Blk.row [V.str fi] 9 1]).si==false then bif (LV (V.slice 6 0 1 false 0 0) [Blk.row (clF w cs) 9 1,Blk.row [V.bool (LV (V.lst x (k+1) cs)
 []).st,V.bool (LV (V.lst x (k+1) cs) []).pi,V.bool (LV (V.lst x (k+1) cs) []).rq,V.bool (LV (V.lst x (k+1) cs) []).ds,V.bool (LV (V.lst x (k+1) cs) []).eb,
 V.bool (LV (V.lst x (k+1) cs) []).si,V.int IntKind.i64 (LV (V.lst x (k+1) cs) []).mo] 34 7,Blk.row [V.str fi] 9 1,Blk.row (V.str fi::cs) 9 1,Blk.dead,Blk.row
 (V.str fi::cs) 9 1,Blk.row [V.str fi] 9 1]).mo==0 then bif decide (0≤IntKind.i64.wrap c)then bif true&&(IntKind.i64.wrap c).toNat.ble (k+1)then bif
 ((IntKind.i64.wrap c).toNat-0).beq 0 then bif ((IntKind.i64.wrap c).toNat-0).beq 0 then bif decide (0≤IntKind.i64.wrap c)then bif (IntKind.i64.wrap c).toNat.ble (k
 +1)&&(k+1).ble (k+1)then bif (k+1-(IntKind.i64.wrap c).toNat).beq 0 then bif (k+1-(IntKind.i64.wrap c).toNat).beq 0 then bif OK (V.slice 9 0 1 false 0 0)
 [Blk.ro false (clF w cs),Blk.ro false [V.bool (LV (V.lst x (k+1) cs) []).st,V.bool (LV (V.lst x (k+1) cs) []).pi,V.bool (LV (V.lst x (k+1) cs) []).rq,V.bool (LV
 (V.lst x (k+1) cs) []).ds,V.bool (LV (V.lst x (k+1) cs) []).eb,V.bool (LV (V.lst x (k+1) cs) []).si,V.int IntKind.i64 (LV (V.lst x (k+1) cs) []).mo],Blk.ro
 false [V.str fi],Blk.ro false (V.str fi::cs),Blk.dead,Blk.ro false (V.str fi::cs),Blk.ro false [V.str fi],Blk.dead,Blk.ro false [V.str fi],Blk.ro false [V.str
 fi]]then bif (LV (V.slice 9 0 1 false 0 0) [Blk.ro false (clF w cs),Blk.ro false [V.bool (LV (V.lst x (k+1) cs) []).st,V.bool (LV (V.lst x (k+1) cs) []).pi,V.bool
 (LV (V.lst x (k+1) cs) []).rq,V.bool (LV (V.lst x (k+1) cs) []).ds,V.bool (LV (V.lst x (k+1) cs) []).eb,V.bool (LV (V.lst x (k+1) cs) []).si,V.int IntKind.i64
 (LV (V.lst x (k+1) cs) []).mo],Blk.ro false [V.str fi],Blk.ro false (V.str fi::cs),Blk.dead,Blk.ro false (V.str fi::cs),Blk.ro false [V.str fi],Blk.dead,
 Blk.ro false [V.str fi],Blk.ro false [V.str fi]]).st==(LV (V.lst x (k+1) cs) []).st then bif (LV (V.slice 9 0 1 false 0 0) [Blk.ro false (clF w cs),Blk.ro false
 [V.bool (LV (V.lst x (k+1) cs) []).st,V.bool (LV (V.lst x (k+1) cs) []).pi,V.bool (LV (V.lst x (k+1) cs) []).rq,V.bool (LV (V.lst x (k+1) cs) []).ds,V.bool
 (LV (V.lst x (k+1) cs) []).eb,V.bool (LV (V.lst x (k+1) cs) []).si,V.int IntKind.i64 (LV (V.lst x (k+1) cs) []).mo],Blk.ro false [V.str fi],Blk.ro false (V.str
 fi::cs),Blk.dead,Blk.ro false (V.str fi::cs),Blk.ro false [V.str fi],Blk.dead,Blk.ro false [V.str fi],Blk.ro false [V.str fi]]).pi==(LV (V.lst x (k+1) cs)
 []).pi then bif (LV (V.slice 9 0 1 false 0 0) [Blk.ro false (clF w cs),Blk.ro false [V.bool (LV (V.lst x (k+1) cs) []).st,V.bool (LV (V.lst x (k+1) cs) []).pi,
 V.bool (LV (V.lst x (k+1) cs) []).rq,V.bool (LV (V.lst x (k+1) cs) []).ds,V.bool (LV (V.lst x (k+1) cs) []).eb,V.bool (LV (V.lst x (k+1) cs) []).si,V.int
 IntKind.i64 (LV (V.lst x (k+1) cs) []).mo],Blk.ro false [V.str fi],Blk.ro false (V.str fi::cs),Blk.dead,Blk.ro false (V.str fi::cs),Blk.ro false [V.str fi],
 Blk.dead,Blk.ro false [V.str fi],Blk.ro false [V.str fi]]).rq==(LV (V.lst x (k+1) cs) []).rq then bif (LV (V.slice 9 0 1 false 0 0) [Blk.ro false (clF w cs),Blk.ro
 false [V.bool (LV (V.lst x (k+1) cs) []).st,V.bool (LV (V.lst x (k+1) cs) []).pi,V.bool (LV (V.lst x (k+1) cs) []).rq,V.bool (LV (V.lst x (k+1) cs) []).ds,
 V.bool (LV (V.lst x (k+1) cs) []).eb,V.bool (LV (V.lst x (k+1) cs) []).si,V.int IntKind.i64 (LV (V.lst x (k+1) cs) []).mo],Blk.ro false [V.str fi],Blk.ro false
 (V.str fi::cs),Blk.dead,Blk.ro false (V.str fi::cs),Blk.ro false [V.str fi],Blk.dead,Blk.ro false [V.str fi],Blk.ro false [V.str fi]]).ds==(LV (V.lst x (k+
 1) cs) []).ds then bif (LV (V.slice 9 0 1 false 0 0) [Blk.ro false (clF w cs),Blk.ro false [V.bool (LV (V.lst x (k+1) cs) []).st,V.bool (LV (V.lst x (k+1) cs)
 []).pi,V.bool (LV (V.lst x (k+1) cs) []).rq,V.bool (LV (V.lst x (k+1) cs) []).ds,V.bool (LV (V.lst x (k+1) cs) []).eb,V.bool (LV (V.lst x (k+1) cs) []).si,
 V.int IntKind.i64 (LV (V.lst x (k+1) cs) []).mo],Blk.ro false [V.str fi],Blk.ro false (V.str fi::cs),Blk.dead,Blk.ro false (V.str fi::cs),Blk.ro false [V.str
 fi],Blk.dead,Blk.ro false [V.str fi],Blk.ro false [V.str fi]]).eb==(LV (V.lst x (k+1) cs) []).eb then bif (LV (V.slice 9 0 1 false 0 0) [Blk.ro false (clF w cs),
 Blk.ro false [V.bool (LV (V.lst x (k+1) cs) []).st,V.bool (LV (V.lst x (k+1) cs) []).pi,V.bool (LV (V.lst x (k+1) cs) []).rq,V.bool (LV (V.lst x (k+1) cs)
 []).ds,V.bool (LV (V.lst x (k+1) cs) []).eb,V.bool (LV (V.lst x (k+1) cs) []).si,V.int IntKind.i64 (LV (V.lst x (k+1) cs) []).mo],Blk.ro false [V.str fi],
 Blk.ro false (V.str fi::cs),Blk.dead,Blk.ro false (V.str fi::cs),Blk.ro false [V.str fi],Blk.dead,Blk.ro false [V.str fi],Blk.ro false [V.str fi]]).si==(LV
 (V.lst x (k+1) cs) []).si then bif (LV (V.slice 9 0 1 false 0 0) [Blk.ro false (clF w cs),Blk.ro false [V.bool (LV (V.lst x (k+1) cs) []).st,V.bool (LV (V.lst x (k
 +1) cs) []).pi,V.bool (LV (V.lst x (k+1) cs) []).rq,V.bool (LV (V.lst x (k+1) cs) []).ds,V.bool (LV (V.lst x (k+1) cs) []).eb,V.bool (LV (V.lst x (k+1) cs)
 []).si,V.int IntKind.i64 (LV (V.lst x (k+1) cs) []).mo],Blk.ro false [V.str fi],Blk.ro false (V.str fi::cs),Blk.dead,Blk.ro false (V.str fi::cs),Blk.ro false
 [V.str fi],Blk.dead,Blk.ro false [V.str fi],Blk.ro false [V.str fi]]).mo==(LV (V.lst x (k+1) cs) []).mo then R (V.bool true)else R (V.bool false)else R (V.bool
 false)else R (V.bool false)else R (V.bool false)else R (V.bool false)else R (V.bool false)else R (V.bool false)else False else False else bif (List.take ((k+1-
 (IntKind.i64.wrap c).toNat)*1) (List.drop ((IntKind.i64.wrap c).toNat*1) cs)).length.beq ((k+1-(IntKind.i64.wrap c).toNat)*1)&&(List.take ((k+1-
 (IntKind.i64.wrap c).toNat)*1) (List.drop ((IntKind.i64.wrap c).toNat*1) cs)).all V.one then bif (1+(k+1-(IntKind.i64.wrap c).toNat)).ble 9223372036854775807&&
 ((1+(k+1-(IntKind.i64.wrap c).toNat))*16).ble 140737488355328 then bif flatL (V.str fi::(List.take ((k+1-(IntKind.i64.wrap c).toNat)*1) (List.drop
 ((IntKind.i64.wrap c).toNat*1) cs)))&&true then bif OK (V.slice 10 0 (1+(k+1-(IntKind.i64.wrap c).toNat)) false 0 0) [Blk.ro false (clF w cs),Blk.ro false
 [V.bool (LV (V.lst x (k+1) cs) []).st,V.bool (LV (V.lst x (k+1) cs) []).pi,V.bool (LV (V.lst x (k+1) cs) []).rq,V.bool (LV (V.lst x (k+1) cs) []).ds,V.bool
 (LV (V.lst x (k+1) cs) []).eb,V.bool (LV (V.lst x (k+1) cs) []).si,V.int IntKind.i64 (LV (V.lst x (k+1) cs) []).mo],Blk.ro false [V.str fi],Blk.ro false (V.str
 fi::cs),Blk.dead,Blk.ro false (V.str fi::cs),Blk.ro false [V.str fi],Blk.dead,Blk.ro false [V.str fi],Blk.dead,Blk.ro false (V.str fi::(List.take ((k+1-
 (IntKind.i64.wrap c).toNat)*1) (List.drop ((IntKind.i64.wrap c).toNat*1) cs)))]then bif (LV (V.slice 10 0 (1+(k+1-(IntKind.i64.wrap c).toNat)) false 0 0)
 [Blk.ro false (clF w cs),Blk.ro false [V.bool (LV (V.lst x (k+1) cs) []).st,V.bool (LV (V.lst x (k+1) cs) []).pi,V.bool (LV (V.lst x (k+1) cs) []).rq,V.bool (LV
 (V.lst x (k+1) cs) []).ds,V.bool (LV (V.lst x (k+1) cs) []).eb,V.bool (LV (V.lst x (k+1) cs) []).si,V.int IntKind.i64 (LV (V.lst x (k+1) cs) []).mo],Blk.ro
 false [V.str fi],Blk.ro false (V.str fi::cs),Blk.dead,Blk.ro false (V.str fi::cs),Blk.ro false [V.str fi],Blk.dead,Blk.ro false [V.str fi],Blk.dead,Blk.ro
 false (V.str fi::(List.take ((k+1-(IntKind.i64.wrap c).toNat)*1) (List.drop ((IntKind.i64.wrap c).toNat*1) cs)))]).st==(LV (V.lst x (k+1) cs) []).st then
 bif (LV (V.slice 10 0 (1+(k+1-(IntKind.i64.wrap c).toNat)) false 0 0) [Blk.ro false (clF w cs),Blk.ro false [V.bool (LV (V.lst x (k+1) cs) []).st,V.bool (LV
 (V.lst x (k+1) cs) []).pi,V.bool (LV (V.lst x (k+1) cs) []).rq,V.bool (LV (V.lst x (k+1) cs) []).ds,V.bool (LV (V.lst x (k+1) cs) []).eb,V.bool (LV (V.lst x
 (k+1) cs) []).si,V.int IntKind.i64 (LV (V.lst x (k+1) cs) []).mo],Blk.ro false [V.str fi],Blk.ro false (V.str fi::cs),Blk.dead,Blk.ro false (V.str fi::cs),
 Blk.ro false [V.str fi],Blk.dead,Blk.ro false [V.str fi],Blk.dead,Blk.ro false (V.str fi::(List.take ((k+1-(IntKind.i64.wrap c).toNat)*1) (List.drop
 ((IntKind.i64.wrap c).toNat*1) cs)))]).pi==(LV (V.lst x (k+1) cs) []).pi then bif (LV (V.slice 10 0 (1+(k+1-(IntKind.i64.wrap c).toNat)) false 0 0) [Blk.ro
 false (clF w cs),Blk.ro false [V.bool (LV (V.lst x (k+1) cs) []).st,V.bool (LV (V.lst x (k+1) cs) []).pi,V.bool (LV (V.lst x (k+1) cs) []).rq,V.bool (LV (V.lst
 x (k+1) cs) []).ds,V.bool (LV (V.lst x (k+1) cs) []).eb,V.bool (LV (V.lst x (k+1) cs) []).si,V.int IntKind.i64 (LV (V.lst x (k+1) cs) []).mo],Blk.ro false
 [V.str fi],Blk.ro false (V.str fi::cs),Blk.dead,Blk.ro false (V.str fi::cs),Blk.ro false [V.str fi],Blk.dead,Blk.ro false [V.str fi],Blk.dead,Blk.ro false
 (V.str fi::(List.take ((k+1-(IntKind.i64.wrap c).toNat)*1) (List.drop ((IntKind.i64.wrap c).toNat*1) cs)))]).rq==(LV (V.lst x (k+1) cs) []).rq then bif (LV
 (V.slice 10 0 (1+(k+1-(IntKind.i64.wrap c).toNat)) false 0 0) [Blk.ro false (clF w cs),Blk.ro false [V.bool (LV (V.lst x (k+1) cs) []).st,V.bool (LV (V.lst x (k
 +1) cs) []).pi,V.bool (LV (V.lst x (k+1) cs) []).rq,V.bool (LV (V.lst x (k+1) cs) []).ds,V.bool (LV (V.lst x (k+1) cs) []).eb,V.bool (LV (V.lst x (k+1) cs)
 []).si,V.int IntKind.i64 (LV (V.lst x (k+1) cs) []).mo],Blk.ro false [V.str fi],Blk.ro false (V.str fi::cs),Blk.dead,Blk.ro false (V.str fi::cs),Blk.ro false
 [V.str fi],Blk.dead,Blk.ro false [V.str fi],Blk.dead,Blk.ro false (V.str fi::(List.take ((k+1-(IntKind.i64.wrap c).toNat)*1) (List.drop ((IntKind.i64.wrap
 c).toNat*1) cs)))]).ds==(LV (V.lst x (k+1) cs) []).ds then bif (LV (V.slice 10 0 (1+(k+1-(IntKind.i64.wrap c).toNat)) false 0 0) [Blk.ro false (clF w cs),
 Blk.ro false [V.bool (LV (V.lst x (k+1) cs) []).st,V.bool (LV (V.lst x (k+1) cs) []).pi,V.bool (LV (V.lst x (k+1) cs) []).rq,V.bool (LV (V.lst x (k+1) cs)
 []).ds,V.bool (LV (V.lst x (k+1) cs) []).eb,V.bool (LV (V.lst x (k+1) cs) []).si,V.int IntKind.i64 (LV (V.lst x (k+1) cs) []).mo],Blk.ro false [V.str fi],
 Blk.ro false (V.str fi::cs),Blk.dead,Blk.ro false (V.str fi::cs),Blk.ro false [V.str fi],Blk.dead,Blk.ro false [V.str fi],Blk.dead,Blk.ro false (V.str fi::
 (List.take ((k+1-(IntKind.i64.wrap c).toNat)*1) (List.drop ((IntKind.i64.wrap c).toNat*1) cs)))]).eb==(LV (V.lst x (k+1) cs) []).eb then bif (LV (V.slice 10 0
 (1+(k+1-(IntKind.i64.wrap c).toNat)) false 0 0) [Blk.ro false (clF w cs),Blk.ro false [V.bool (LV (V.lst x (k+1) cs) []).st,V.bool (LV (V.lst x (k+1) cs)
 []).pi,V.bool (LV (V.lst x (k+1) cs) []).rq,V.bool (LV (V.lst x (k+1) cs) []).ds,V.bool (LV (V.lst x (k+1) cs) []).eb,V.bool (LV (V.lst x (k+1) cs) []).si,
 V.int IntKind.i64 (LV (V.lst x (k+1) cs) []).mo],Blk.ro false [V.str fi],Blk.ro false (V.str fi::cs),Blk.dead,Blk.ro false (V.str fi::cs),Blk.ro false [V.str
 fi],Blk.dead,Blk.ro false [V.str fi],Blk.dead,Blk.ro false (V.str fi::(List.take ((k+1-(IntKind.i64.wrap c).toNat)*1) (List.drop ((IntKind.i64.wrap c).toNat*
 1) cs)))]).si==(LV (V.lst x (k+1) cs) []).si then bif (LV (V.slice 10 0 (1+(k+1-(IntKind.i64.wrap c).toNat)) false 0 0) [Blk.ro false (clF w cs),Blk.ro false
 [V.bool (LV (V.lst x (k+1) cs) []).st,V.bool (LV (V.lst x (k+1) cs) []).pi,V.bool (LV (V.lst x (k+1) cs) []).rq,V.bool (LV (V.lst x (k+1) cs) []).ds,V.bool
 (LV (V.lst x (k+1) cs) []).eb,V.bool (LV (V.lst x (k+1) cs) []).si,V.int IntKind.i64 (LV (V.lst x (k+1) cs) []).mo],Blk.ro false [V.str fi],Blk.ro false (V.str
 fi::cs),Blk.dead,Blk.ro false (V.str fi::cs),Blk.ro false [V.str fi],Blk.dead,Blk.ro false [V.str fi],Blk.dead,Blk.ro false (V.str fi::(List.take ((k+1-
 (IntKind.i64.wrap c).toNat)*1) (List.drop ((IntKind.i64.wrap c).toNat*1) cs)))]).mo==(LV (V.lst x (k+1) cs) []).mo then R (V.bool true)else R (V.bool false)else
 R (V.bool false)else R (V.bool false)else R (V.bool false)else R (V.bool false)else R (V.bool false)else R (V.bool false)else False else False else False else False
 else False else False else False else bif (List.take (((IntKind.i64.wrap c).toNat-0)*1) cs).length.beq (((IntKind.i64.wrap c).toNat-0)*1)&&(List.take
 (((IntKind.i64.wrap c).toNat-0)*1) cs).all V.one then bif (0+((IntKind.i64.wrap c).toNat-0)).ble 9223372036854775807&&((0+((IntKind.i64.wrap c).toNat-0))*
 16).ble 140737488355328 then bif flatL ([]++List.take (((IntKind.i64.wrap c).toNat-0)*1) cs)&&true then bif ([]++List.take (((IntKind.i64.wrap c).toNat-0)*
 1) cs).length.beq ((0+((IntKind.i64.wrap c).toNat-0))*1)then bif (0+((IntKind.i64.wrap c).toNat-0)+1).ble 9223372036854775807&&((0+((IntKind.i64.wrap
 c).toNat-0)+1)*16).ble 140737488355328 then bif flatL ([]++List.take (((IntKind.i64.wrap c).toNat-0)*1) cs++[V.str fi])&&true then bif decide (0≤
 IntKind.i64.wrap c)then bif (IntKind.i64.wrap c).toNat.ble (k+1)&&(k+1).ble (k+1)then bif (k+1-(IntKind.i64.wrap c).toNat).beq 0 then bif (k+1-
 (IntKind.i64.wrap c).toNat).beq 0 then bif OK (V.slice 10 0 (0+((IntKind.i64.wrap c).toNat-0)+1) false 0 0) [Blk.ro false (clF w cs),Blk.ro false [V.bool (LV
 (V.lst x (k+1) cs) []).st,V.bool (LV (V.lst x (k+1) cs) []).pi,V.bool (LV (V.lst x (k+1) cs) []).rq,V.bool (LV (V.lst x (k+1) cs) []).ds,V.bool (LV (V.lst x
 (k+1) cs) []).eb,V.bool (LV (V.lst x (k+1) cs) []).si,V.int IntKind.i64 (LV (V.lst x (k+1) cs) []).mo],Blk.ro false [V.str fi],Blk.ro false (V.str fi::cs),
 Blk.dead,Blk.ro false (V.str fi::cs),Blk.ro false [V.str fi],Blk.dead,Blk.dead,Blk.ro false [V.str fi],Blk.ro false ([]++List.take (((IntKind.i64.wrap c).toNat
 -0)*1) cs++[V.str fi])]then bif (LV (V.slice 10 0 (0+((IntKind.i64.wrap c).toNat-0)+1) false 0 0) [Blk.ro false (clF w cs),Blk.ro false [V.bool (LV (V.lst x
 (k+1) cs) []).st,V.bool (LV (V.lst x (k+1) cs) []).pi,V.bool (LV (V.lst x (k+1) cs) []).rq,V.bool (LV (V.lst x (k+1) cs) []).ds,V.bool (LV (V.lst x (k+1)
 cs) []).eb,V.bool (LV (V.lst x (k+1) cs) []).si,V.int IntKind.i64 (LV (V.lst x (k+1) cs) []).mo],Blk.ro false [V.str fi],Blk.ro false (V.str fi::cs),Blk.dead,
 Blk.ro false (V.str fi::cs),Blk.ro false [V.str fi],Blk.dead,Blk.dead,Blk.ro false [V.str fi],Blk.ro false ([]++List.take (((IntKind.i64.wrap c).toNat-0)*1)
 cs++[V.str fi])]).st==(LV (V.lst x (k+1) cs) []).st then bif (LV (V.slice 10 0 (0+((IntKind.i64.wrap c).toNat-0)+1) false 0 0) [Blk.ro false (clF w cs),
 Blk.ro false [V.bool (LV (V.lst x (k+1) cs) []).st,V.bool (LV (V.lst x (k+1) cs) []).pi,V.bool (LV (V.lst x (k+1) cs) []).rq,V.bool (LV (V.lst x (k+1) cs)
 []).ds,V.bool (LV (V.lst x (k+1) cs) []).eb,V.bool (LV (V.lst x (k+1) cs) []).si,V.int IntKind.i64 (LV (V.lst x (k+1) cs) []).mo],Blk.ro false [V.str fi],
 Blk.ro false (V.str fi::cs),Blk.dead,Blk.ro false (V.str fi::cs),Blk.ro false [V.str fi],Blk.dead,Blk.dead,Blk.ro false [V.str fi],Blk.ro false ([]++
 List.take (((IntKind.i64.wrap c).toNat-0)*1) cs++[V.str fi])]).pi==(LV (V.lst x (k+1) cs) []).pi then bif (LV (V.slice 10 0 (0+((IntKind.i64.wrap c).toNat-
 0)+1) false 0 0) [Blk.ro false (clF w cs),Blk.ro false [V.bool (LV (V.lst x (k+1) cs) []).st,V.bool (LV (V.lst x (k+1) cs) []).pi,V.bool (LV (V.lst x (k+1) cs)
 []).rq,V.bool (LV (V.lst x (k+1) cs) []).ds,V.bool (LV (V.lst x (k+1) cs) []).eb,V.bool (LV (V.lst x (k+1) cs) []).si,V.int IntKind.i64 (LV (V.lst x (k+1) cs)
 []).mo],Blk.ro false [V.str fi],Blk.ro false (V.str fi::cs),Blk.dead,Blk.ro false (V.str fi::cs),Blk.ro false [V.str fi],Blk.dead,Blk.dead,Blk.ro false [V.str
 fi],Blk.ro false ([]++List.take (((IntKind.i64.wrap c).toNat-0)*1) cs++[V.str fi])]).rq==(LV (V.lst x (k+1) cs) []).rq then bif (LV (V.slice 10 0 (0+
 ((IntKind.i64.wrap c).toNat-0)+1) false 0 0) [Blk.ro false (clF w cs),Blk.ro false [V.bool (LV (V.lst x (k+1) cs) []).st,V.bool (LV (V.lst x (k+1) cs) []).pi,
 V.bool (LV (V.lst x (k+1) cs) []).rq,V.bool (LV (V.lst x (k+1) cs) []).ds,V.bool (LV (V.lst x (k+1) cs) []).eb,V.bool (LV (V.lst x (k+1) cs) []).si,V.int
 IntKind.i64 (LV (V.lst x (k+1) cs) []).mo],Blk.ro false [V.str fi],Blk.ro false (V.str fi::cs),Blk.dead,Blk.ro false (V.str fi::cs),Blk.ro false [V.str fi],
 Blk.dead,Blk.dead,Blk.ro false [V.str fi],Blk.ro false ([]++List.take (((IntKind.i64.wrap c).toNat-0)*1) cs++[V.str fi])]).ds==(LV (V.lst x (k+1) cs)
 []).ds then bif (LV (V.slice 10 0 (0+((IntKind.i64.wrap c).toNat-0)+1) false 0 0) [Blk.ro false (clF w cs),Blk.ro false [V.bool (LV (V.lst x (k+1) cs) []).st,
 V.bool (LV (V.lst x (k+1) cs) []).pi,V.bool (LV (V.lst x (k+1) cs) []).rq,V.bool (LV (V.lst x (k+1) cs) []).ds,V.bool (LV (V.lst x (k+1) cs) []).eb,V.bool (LV
 (V.lst x (k+1) cs) []).si,V.int IntKind.i64 (LV (V.lst x (k+1) cs) []).mo],Blk.ro false [V.str fi],Blk.ro false (V.str fi::cs),Blk.dead,Blk.ro false (V.str fi
 ::cs),Blk.ro false [V.str fi],Blk.dead,Blk.dead,Blk.ro false [V.str fi],Blk.ro false ([]++List.take (((IntKind.i64.wrap c).toNat-0)*1) cs++[V.str fi])]).eb
 ==(LV (V.lst x (k+1) cs) []).eb then bif (LV (V.slice 10 0 (0+((IntKind.i64.wrap c).toNat-0)+1) false 0 0) [Blk.ro false (clF w cs),Blk.ro false [V.bool (LV
 (V.lst x (k+1) cs) []).st,V.bool (LV (V.lst x (k+1) cs) []).pi,V.bool (LV (V.lst x (k+1) cs) []).rq,V.bool (LV (V.lst x (k+1) cs) []).ds,V.bool (LV (V.lst x
 (k+1) cs) []).eb,V.bool (LV (V.lst x (k+1) cs) []).si,V.int IntKind.i64 (LV (V.lst x (k+1) cs) []).mo],Blk.ro false [V.str fi],Blk.ro false (V.str fi::cs),
 Blk.dead,Blk.ro false (V.str fi::cs),Blk.ro false [V.str fi],Blk.dead,Blk.dead,Blk.ro false [V.str fi],Blk.ro false ([]++List.take (((IntKind.i64.wrap c).toNat
 -0)*1) cs++[V.str fi])]).si==(LV (V.lst x (k+1) cs) []).si then bif (LV (V.slice 10 0 (0+((IntKind.i64.wrap c).toNat-0)+1) false 0 0) [Blk.ro false (clF w
 cs),Blk.ro false [V.bool (LV (V.lst x (k+1) cs) []).st,V.bool (LV (V.lst x (k+1) cs) []).pi,V.bool (LV (V.lst x (k+1) cs) []).rq,V.bool (LV (V.lst x (k+1) cs)
 []).ds,V.bool (LV (V.lst x (k+1) cs) []).eb,V.bool (LV (V.lst x (k+1) cs) []).si,V.int IntKind.i64 (LV (V.lst x (k+1) cs) []).mo],Blk.ro false [V.str fi],
 Blk.ro false (V.str fi::cs),Blk.dead,Blk.ro false (V.str fi::cs),Blk.ro false [V.str fi],Blk.dead,Blk.dead,Blk.ro false [V.str fi],Blk.ro false ([]++
 List.take (((IntKind.i64.wrap c).toNat-0)*1) cs++[V.str fi])]).mo==(LV (V.lst x (k+1) cs) []).mo then R (V.bool true)else R (V.bool false)else R (V.bool
 false)else R (V.bool false)else R (V.bool false)else R (V.bool false)else R (V.bool false)else R (V.bool false)else False else False else bif (List.take ((k+1-
 (IntKind.i64.wrap c).toNat)*1) (List.drop ((IntKind.i64.wrap c).toNat*1) cs)).length.beq ((k+1-(IntKind.i64.wrap c).toNat)*1)&&(List.take ((k+1-
 (IntKind.i64.wrap c).toNat)*1) (List.drop ((IntKind.i64.wrap c).toNat*1) cs)).all V.one then bif ([]++List.take (((IntKind.i64.wrap c).toNat-0)*1) cs++[V.str
 fi]).length.beq ((0+((IntKind.i64.wrap c).toNat-0)+1)*1)then bif (0+((IntKind.i64.wrap c).toNat-0)+1+(k+1-(IntKind.i64.wrap c).toNat)).ble
 9223372036854775807&&((0+((IntKind.i64.wrap c).toNat-0)+1+(k+1-(IntKind.i64.wrap c).toNat))*16).ble 140737488355328 then bif flatL ([]++List.take
 (((IntKind.i64.wrap c).toNat-0)*1) cs++[V.str fi]++List.take ((k+1-(IntKind.i64.wrap c).toNat)*1) (List.drop ((IntKind.i64.wrap c).toNat*1) cs))&&true
 then bif OK (V.slice 11 0 (0+((IntKind.i64.wrap c).toNat-0)+1+(k+1-(IntKind.i64.wrap c).toNat)) false 0 0) [Blk.ro false (clF w cs),Blk.ro false [V.bool (LV
 (V.lst x (k+1) cs) []).st,V.bool (LV (V.lst x (k+1) cs) []).pi,V.bool (LV (V.lst x (k+1) cs) []).rq,V.bool (LV (V.lst x (k+1) cs) []).ds,V.bool (LV (V.lst x
 (k+1) cs) []).eb,V.bool (LV (V.lst x (k+1) cs) []).si,V.int IntKind.i64 (LV (V.lst x (k+1) cs) []).mo],Blk.ro false [V.str fi],Blk.ro false (V.str fi::cs),
 Blk.dead,Blk.ro false (V.str fi::cs),Blk.ro false [V.str fi],Blk.dead,Blk.dead,Blk.ro false [V.str fi],Blk.dead,Blk.ro false ([]++List.take (((IntKind.i64.wrap
 c).toNat-0)*1) cs++[V.str fi]++List.take ((k+1-(IntKind.i64.wrap c).toNat)*1) (List.drop ((IntKind.i64.wrap c).toNat*1) cs))]then bif (LV (V.slice 11 0
 (0+((IntKind.i64.wrap c).toNat-0)+1+(k+1-(IntKind.i64.wrap c).toNat)) false 0 0) [Blk.ro false (clF w cs),Blk.ro false [V.bool (LV (V.lst x (k+1) cs)
 []).st,V.bool (LV (V.lst x (k+1) cs) []).pi,V.bool (LV (V.lst x (k+1) cs) []).rq,V.bool (LV (V.lst x (k+1) cs) []).ds,V.bool (LV (V.lst x (k+1) cs) []).eb,
 V.bool (LV (V.lst x (k+1) cs) []).si,V.int IntKind.i64 (LV (V.lst x (k+1) cs) []).mo],Blk.ro false [V.str fi],Blk.ro false (V.str fi::cs),Blk.dead,Blk.ro false
 (V.str fi::cs),Blk.ro false [V.str fi],Blk.dead,Blk.dead,Blk.ro false [V.str fi],Blk.dead,Blk.ro false ([]++List.take (((IntKind.i64.wrap c).toNat-0)*1) cs
 ++[V.str fi]++List.take ((k+1-(IntKind.i64.wrap c).toNat)*1) (List.drop ((IntKind.i64.wrap c).toNat*1) cs))]).st==(LV (V.lst x (k+1) cs) []).st then bif
 (LV (V.slice 11 0 (0+((IntKind.i64.wrap c).toNat-0)+1+(k+1-(IntKind.i64.wrap c).toNat)) false 0 0) [Blk.ro false (clF w cs),Blk.ro false [V.bool (LV (V.lst x
 (k+1) cs) []).st,V.bool (LV (V.lst x (k+1) cs) []).pi,V.bool (LV (V.lst x (k+1) cs) []).rq,V.bool (LV (V.lst x (k+1) cs) []).ds,V.bool (LV (V.lst x (k+1)
 cs) []).eb,V.bool (LV (V.lst x (k+1) cs) []).si,V.int IntKind.i64 (LV (V.lst x (k+1) cs) []).mo],Blk.ro false [V.str fi],Blk.ro false (V.str fi::cs),Blk.dead,
 Blk.ro false (V.str fi::cs),Blk.ro false [V.str fi],Blk.dead,Blk.dead,Blk.ro false [V.str fi],Blk.dead,Blk.ro false ([]++List.take (((IntKind.i64.wrap c).toNat
 -0)*1) cs++[V.str fi]++List.take ((k+1-(IntKind.i64.wrap c).toNat)*1) (List.drop ((IntKind.i64.wrap c).toNat*1) cs))]).pi==(LV (V.lst x (k+1) cs)
 []).pi then bif (LV (V.slice 11 0 (0+((IntKind.i64.wrap c).toNat-0)+1+(k+1-(IntKind.i64.wrap c).toNat)) false 0 0) [Blk.ro false (clF w cs),Blk.ro false
 [V.bool (LV (V.lst x (k+1) cs) []).st,V.bool (LV (V.lst x (k+1) cs) []).pi,V.bool (LV (V.lst x (k+1) cs) []).rq,V.bool (LV (V.lst x (k+1) cs) []).ds,V.bool
 (LV (V.lst x (k+1) cs) []).eb,V.bool (LV (V.lst x (k+1) cs) []).si,V.int IntKind.i64 (LV (V.lst x (k+1) cs) []).mo],Blk.ro false [V.str fi],Blk.ro false (V.str
 fi::cs),Blk.dead,Blk.ro false (V.str fi::cs),Blk.ro false [V.str fi],Blk.dead,Blk.dead,Blk.ro false [V.str fi],Blk.dead,Blk.ro false ([]++List.take
 (((IntKind.i64.wrap c).toNat-0)*1) cs++[V.str fi]++List.take ((k+1-(IntKind.i64.wrap c).toNat)*1) (List.drop ((IntKind.i64.wrap c).toNat*1) cs))]).rq==
 (LV (V.lst x (k+1) cs) []).rq then bif (LV (V.slice 11 0 (0+((IntKind.i64.wrap c).toNat-0)+1+(k+1-(IntKind.i64.wrap c).toNat)) false 0 0) [Blk.ro false (clF
 w cs),Blk.ro false [V.bool (LV (V.lst x (k+1) cs) []).st,V.bool (LV (V.lst x (k+1) cs) []).pi,V.bool (LV (V.lst x (k+1) cs) []).rq,V.bool (LV (V.lst x (k+1)
 cs) []).ds,V.bool (LV (V.lst x (k+1) cs) []).eb,V.bool (LV (V.lst x (k+1) cs) []).si,V.int IntKind.i64 (LV (V.lst x (k+1) cs) []).mo],Blk.ro false [V.str fi],
 Blk.ro false (V.str fi::cs),Blk.dead,Blk.ro false (V.str fi::cs),Blk.ro false [V.str fi],Blk.dead,Blk.dead,Blk.ro false [V.str fi],Blk.dead,Blk.ro false ([]
 ++List.take (((IntKind.i64.wrap c).toNat-0)*1) cs++[V.str fi]++List.take ((k+1-(IntKind.i64.wrap c).toNat)*1) (List.drop ((IntKind.i64.wrap c).toNat*1)
 cs))]).ds==(LV (V.lst x (k+1) cs) []).ds then bif (LV (V.slice 11 0 (0+((IntKind.i64.wrap c).toNat-0)+1+(k+1-(IntKind.i64.wrap c).toNat)) false 0 0)
 [Blk.ro false (clF w cs),Blk.ro false [V.bool (LV (V.lst x (k+1) cs) []).st,V.bool (LV (V.lst x (k+1) cs) []).pi,V.bool (LV (V.lst x (k+1) cs) []).rq,V.bool (LV
 (V.lst x (k+1) cs) []).ds,V.bool (LV (V.lst x (k+1) cs) []).eb,V.bool (LV (V.lst x (k+1) cs) []).si,V.int IntKind.i64 (LV (V.lst x (k+1) cs) []).mo],Blk.ro
 false [V.str fi],Blk.ro false (V.str fi::cs),Blk.dead,Blk.ro false (V.str fi::cs),Blk.ro false [V.str fi],Blk.dead,Blk.dead,Blk.ro false [V.str fi],Blk.dead,
 Blk.ro false ([]++List.take (((IntKind.i64.wrap c).toNat-0)*1) cs++[V.str fi]++List.take ((k+1-(IntKind.i64.wrap c).toNat)*1) (List.drop
 ((IntKind.i64.wrap c).toNat*1) cs))]).eb==(LV (V.lst x (k+1) cs) []).eb then bif (LV (V.slice 11 0 (0+((IntKind.i64.wrap c).toNat-0)+1+(k+1-
 (IntKind.i64.wrap c).toNat)) false 0 0) [Blk.ro false (clF w cs),Blk.ro false [V.bool (LV (V.lst x (k+1) cs) []).st,V.bool (LV (V.lst x (k+1) cs) []).pi,V.bool (LV
 (V.lst x (k+1) cs) []).rq,V.bool (LV (V.lst x (k+1) cs) []).ds,V.bool (LV (V.lst x (k+1) cs) []).eb,V.bool (LV (V.lst x (k+1) cs) []).si,V.int IntKind.i64 (LV
 (V.lst x (k+1) cs) []).mo],Blk.ro false [V.str fi],Blk.ro false (V.str fi::cs),Blk.dead,Blk.ro false (V.str fi::cs),Blk.ro false [V.str fi],Blk.dead,
 Blk.dead,Blk.ro false [V.str fi],Blk.dead,Blk.ro false ([]++List.take (((IntKind.i64.wrap c).toNat-0)*1) cs++[V.str fi]++List.take ((k+1-
 (IntKind.i64.wrap c).toNat)*1) (List.drop ((IntKind.i64.wrap c).toNat*1) cs))]).si==(LV (V.lst x (k+1) cs) []).si then bif (LV (V.slice 11 0 (0+
 ((IntKind.i64.wrap c).toNat-0)+1+(k+1-(IntKind.i64.wrap c).toNat)) false 0 0) [Blk.ro false (clF w cs),Blk.ro false [V.bool (LV (V.lst x (k+1) cs) []).st,
 V.bool (LV (V.lst x (k+1) cs) []).pi,V.bool (LV (V.lst x (k+1) cs) []).rq,V.bool (LV (V.lst x (k+1) cs) []).ds,V.bool (LV (V.lst x (k+1) cs) []).eb,V.bool (LV
 (V.lst x (k+1) cs) []).si,V.int IntKind.i64 (LV (V.lst x (k+1) cs) []).mo],Blk.ro false [V.str fi],Blk.ro false (V.str fi::cs),Blk.dead,Blk.ro false (V.str fi
 ::cs),Blk.ro false [V.str fi],Blk.dead,Blk.dead,Blk.ro false [V.str fi],Blk.dead,Blk.ro false ([]++List.take (((IntKind.i64.wrap c).toNat-0)*1) cs++[V.str
 fi]++List.take ((k+1-(IntKind.i64.wrap c).toNat)*1) (List.drop ((IntKind.i64.wrap c).toNat*1) cs))]).mo==(LV (V.lst x (k+1) cs) []).mo then R (V.bool true)
 else R (V.bool false)else R (V.bool false)else R (V.bool false)else R (V.bool false)else R (V.bool false)else R (V.bool false)else R (V.bool false)else False else
 False else False else False else False else False else False else False else False else False else False else False else False else False else False else R (V.bool true)
 else R (V.bool true)else R (V.bool true)else R (V.bool true)else R (V.bool true)else R (V.bool true)else R (V.bool true)else False else False else R (V.bool false)
 else R (V.bool false)else R (V.bool false)else R (V.bool false)else R (V.bool false)else R (V.bool false)else R (V.bool false)else False else False else False else
 bif !IntKind.u64.wrap (IntKind.i64.wrap ((↑(k+1):Int)+1))==0 then ∀(c:Int),c=(IntKind.u64.wrap a).tmod (IntKind.u64.wrap (IntKind.i64.wrap ((↑(k+1):Int)
 +1)))→bif OK (V.slice 4 0 1 false 0 0) [Blk.row (clF w cs) 9 1,Blk.row [V.bool (LV (V.lst x (k+1) cs) []).st,V.bool (LV (V.lst x (k+1) cs) []).pi,V.bool (LV
 (V.lst x (k+1) cs) []).rq,V.bool (LV (V.lst x (k+1) cs) []).ds,V.bool (LV (V.lst x (k+1) cs) []).eb,V.bool (LV (V.lst x (k+1) cs) []).si,V.int IntKind.i64 (LV
 (V.lst x (k+1) cs) []).mo] 34 7,Blk.row [V.str fi] 9 1,Blk.row (V.str fi::cs) 9 1,Blk.row [V.str fi] 9 1]then bif (LV (V.slice 4 0 1 false 0 0) [Blk.row (clF w
 cs) 9 1,Blk.row [V.bool (LV (V.lst x (k+1) cs) []).st,V.bool (LV (V.lst x (k+1) cs) []).pi,V.bool (LV (V.lst x (k+1) cs) []).rq,V.bool (LV (V.lst x (k+1) cs)
 []).ds,V.bool (LV (V.lst x (k+1) cs) []).eb,V.bool (LV (V.lst x (k+1) cs) []).si,V.int IntKind.i64 (LV (V.lst x (k+1) cs) []).mo] 34 7,Blk.row [V.str fi] 9 1,
 Blk.row (V.str fi::cs) 9 1,Blk.row [V.str fi] 9 1]).st==false then bif (LV (V.slice 4 0 1 false 0 0) [Blk.row (clF w cs) 9 1,Blk.row [V.bool (LV (V.lst x (k+1)
 cs) []).st,V.bool (LV (V.lst x (k+1) cs) []).pi,V.bool (LV (V.lst x (k+1) cs) []).rq,V.bool (LV (V.lst x (k+1) cs) []).ds,V.bool (LV (V.lst x (k+1) cs)
 []).eb,V.bool (LV (V.lst x (k+1) cs) []).si,V.int IntKind.i64 (LV (V.lst x (k+1) cs) []).mo] 34 7,Blk.row [V.str fi] 9 1,Blk.row (V.str fi::cs) 9 1,Blk.row
 [V.str fi] 9 1]).pi==false then bif (LV (V.slice 4 0 1 false 0 0) [Blk.row (clF w cs) 9 1,Blk.row [V.bool (LV (V.lst x (k+1) cs) []).st,V.bool (LV (V.lst x (k+1)
 cs) []).pi,V.bool (LV (V.lst x (k+1) cs) []).rq,V.bool (LV (V.lst x (k+1) cs) []).ds,V.bool (LV (V.lst x (k+1) cs) []).eb,V.bool (LV (V.lst x (k+1) cs)
 []).si,V.int IntKind.i64 (LV (V.lst x (k+1) cs) []).mo] 34 7,Blk.row [V.str fi] 9 1,Blk.row (V.str fi::cs) 9 1,Blk.row [V.str fi] 9 1]).rq==false then bif (LV
 (V.slice 4 0 1 false 0 0) [Blk.row (clF w cs) 9 1,Blk.row [V.bool (LV (V.lst x (k+1) cs) []).st,V.bool (LV (V.lst x (k+1) cs) []).pi,V.bool (LV (V.lst x (k+1)
 cs) []).rq,V.bool (LV (V.lst x (k+1) cs) []).ds,V.bool (LV (V.lst x (k+1) cs) []).eb,V.bool (LV (V.lst x (k+1) cs) []).si,V.int IntKind.i64 (LV (V.lst x (k+1)
 cs) []).mo] 34 7,Blk.row [V.str fi] 9 1,Blk.row (V.str fi::cs) 9 1,Blk.row [V.str fi] 9 1]).ds==false then bif (LV (V.slice 4 0 1 false 0 0) [Blk.row (clF w cs) 9
 1,Blk.row [V.bool (LV (V.lst x (k+1) cs) []).st,V.bool (LV (V.lst x (k+1) cs) []).pi,V.bool (LV (V.lst x (k+1) cs) []).rq,V.bool (LV (V.lst x (k+1) cs)
 []).ds,V.bool (LV (V.lst x (k+1) cs) []).eb,V.bool (LV (V.lst x (k+1) cs) []).si,V.int IntKind.i64 (LV (V.lst x (k+1) cs) []).mo] 34 7,Blk.row [V.str fi] 9 1,
 Blk.row (V.str fi::cs) 9 1,Blk.row [V.str fi] 9 1]).eb==false then bif (LV (V.slice 4 0 1 false 0 0) [Blk.row (clF w cs) 9 1,Blk.row [V.bool (LV (V.lst x (k+1)
 cs) []).st,V.bool (LV (V.lst x (k+1) cs) []).pi,V.bool (LV (V.lst x (k+1) cs) []).rq,V.bool (LV (V.lst x (k+1) cs) []).ds,V.bool (LV (V.lst x (k+1) cs)
 []).eb,V.bool (LV (V.lst x (k+1) cs) []).si,V.int IntKind.i64 (LV (V.lst x (k+1) cs) []).mo] 34 7,Blk.row [V.str fi] 9 1,Blk.row (V.str fi::cs) 9 1,Blk.row
 [V.str fi] 9 1]).si==false then bif (LV (V.slice 4 0 1 false 0 0) [Blk.row (clF w cs) 9 1,Blk.row [V.bool (LV (V.lst x (k+1) cs) []).st,V.bool (LV (V.lst x (k+1)
 cs) []).pi,V.bool (LV (V.lst x (k+1) cs) []).rq,V.bool (LV (V.lst x (k+1) cs) []).ds,V.bool (LV (V.lst x (k+1) cs) []).eb,V.bool (LV (V.lst x (k+1) cs)
 []).si,V.int IntKind.i64 (LV (V.lst x (k+1) cs) []).mo] 34 7,Blk.row [V.str fi] 9 1,Blk.row (V.str fi::cs) 9 1,Blk.row [V.str fi] 9 1]).mo==0 then bif decide (0
 ≤IntKind.i64.wrap c)then bif true&&(IntKind.i64.wrap c).toNat.ble (k+1)then bif ((IntKind.i64.wrap c).toNat-0).beq 0 then bif ((IntKind.i64.wrap c).toNat-
 0).beq 0 then bif decide (0≤IntKind.i64.wrap c)then bif (IntKind.i64.wrap c).toNat.ble (k+1)&&(k+1).ble (k+1)then bif (k+1-(IntKind.i64.wrap c).toNat).beq
 0 then bif (k+1-(IntKind.i64.wrap c).toNat).beq 0 then bif OK (V.slice 7 0 1 false 0 0) [Blk.ro false (clF w cs),Blk.ro false [V.bool (LV (V.lst x (k+1) cs)
 []).st,V.bool (LV (V.lst x (k+1) cs) []).pi,V.bool (LV (V.lst x (k+1) cs) []).rq,V.bool (LV (V.lst x (k+1) cs) []).ds,V.bool (LV (V.lst x (k+1) cs) []).eb,
 V.bool (LV (V.lst x (k+1) cs) []).si,V.int IntKind.i64 (LV (V.lst x (k+1) cs) []).mo],Blk.ro false [V.str fi],Blk.ro false (V.str fi::cs),Blk.ro false [V.str
 fi],Blk.dead,Blk.ro false [V.str fi],Blk.ro false [V.str fi]]then bif (LV (V.slice 7 0 1 false 0 0) [Blk.ro false (clF w cs),Blk.ro false [V.bool (LV (V.lst x (k+
 1) cs) []).st,V.bool (LV (V.lst x (k+1) cs) []).pi,V.bool (LV (V.lst x (k+1) cs) []).rq,V.bool (LV (V.lst x (k+1) cs) []).ds,V.bool (LV (V.lst x (k+1) cs)
 []).eb,V.bool (LV (V.lst x (k+1) cs) []).si,V.int IntKind.i64 (LV (V.lst x (k+1) cs) []).mo],Blk.ro false [V.str fi],Blk.ro false (V.str fi::cs),Blk.ro false
 [V.str fi],Blk.dead,Blk.ro false [V.str fi],Blk.ro false [V.str fi]]).st==(LV (V.lst x (k+1) cs) []).st then bif (LV (V.slice 7 0 1 false 0 0) [Blk.ro false (clF w
 cs),Blk.ro false [V.bool (LV (V.lst x (k+1) cs) []).st,V.bool (LV (V.lst x (k+1) cs) []).pi,V.bool (LV (V.lst x (k+1) cs) []).rq,V.bool (LV (V.lst x (k+1) cs)
 []).ds,V.bool (LV (V.lst x (k+1) cs) []).eb,V.bool (LV (V.lst x (k+1) cs) []).si,V.int IntKind.i64 (LV (V.lst x (k+1) cs) []).mo],Blk.ro false [V.str fi],
 Blk.ro false (V.str fi::cs),Blk.ro false [V.str fi],Blk.dead,Blk.ro false [V.str fi],Blk.ro false [V.str fi]]).pi==(LV (V.lst x (k+1) cs) []).pi then bif (LV
 (V.slice 7 0 1 false 0 0) [Blk.ro false (clF w cs),Blk.ro false [V.bool (LV (V.lst x (k+1) cs) []).st,V.bool (LV (V.lst x (k+1) cs) []).pi,V.bool (LV (V.lst x (k+
 1) cs) []).rq,V.bool (LV (V.lst x (k+1) cs) []).ds,V.bool (LV (V.lst x (k+1) cs) []).eb,V.bool (LV (V.lst x (k+1) cs) []).si,V.int IntKind.i64 (LV (V.lst x (k+
 1) cs) []).mo],Blk.ro false [V.str fi],Blk.ro false (V.str fi::cs),Blk.ro false [V.str fi],Blk.dead,Blk.ro false [V.str fi],Blk.ro false [V.str fi]]).rq==(LV
 (V.lst x (k+1) cs) []).rq then bif (LV (V.slice 7 0 1 false 0 0) [Blk.ro false (clF w cs),Blk.ro false [V.bool (LV (V.lst x (k+1) cs) []).st,V.bool (LV (V.lst x (k
 +1) cs) []).pi,V.bool (LV (V.lst x (k+1) cs) []).rq,V.bool (LV (V.lst x (k+1) cs) []).ds,V.bool (LV (V.lst x (k+1) cs) []).eb,V.bool (LV (V.lst x (k+1) cs)
 []).si,V.int IntKind.i64 (LV (V.lst x (k+1) cs) []).mo],Blk.ro false [V.str fi],Blk.ro false (V.str fi::cs),Blk.ro false [V.str fi],Blk.dead,Blk.ro false [V.str
 fi],Blk.ro false [V.str fi]]).ds==(LV (V.lst x (k+1) cs) []).ds then bif (LV (V.slice 7 0 1 false 0 0) [Blk.ro false (clF w cs),Blk.ro false [V.bool (LV (V.lst x (k
 +1) cs) []).st,V.bool (LV (V.lst x (k+1) cs) []).pi,V.bool (LV (V.lst x (k+1) cs) []).rq,V.bool (LV (V.lst x (k+1) cs) []).ds,V.bool (LV (V.lst x (k+1) cs)
 []).eb,V.bool (LV (V.lst x (k+1) cs) []).si,V.int IntKind.i64 (LV (V.lst x (k+1) cs) []).mo],Blk.ro false [V.str fi],Blk.ro false (V.str fi::cs),Blk.ro false
 [V.str fi],Blk.dead,Blk.ro false [V.str fi],Blk.ro false [V.str fi]]).eb==(LV (V.lst x (k+1) cs) []).eb then bif (LV (V.slice 7 0 1 false 0 0) [Blk.ro false (clF w
 cs),Blk.ro false [V.bool (LV (V.lst x (k+1) cs) []).st,V.bool (LV (V.lst x (k+1) cs) []).pi,V.bool (LV (V.lst x (k+1) cs) []).rq,V.bool (LV (V.lst x (k+1) cs)
 []).ds,V.bool (LV (V.lst x (k+1) cs) []).eb,V.bool (LV (V.lst x (k+1) cs) []).si,V.int IntKind.i64 (LV (V.lst x (k+1) cs) []).mo],Blk.ro false [V.str fi],
 Blk.ro false (V.str fi::cs),Blk.ro false [V.str fi],Blk.dead,Blk.ro false [V.str fi],Blk.ro false [V.str fi]]).si==(LV (V.lst x (k+1) cs) []).si then bif (LV
 (V.slice 7 0 1 false 0 0) [Blk.ro false (clF w cs),Blk.ro false [V.bool (LV (V.lst x (k+1) cs) []).st,V.bool (LV (V.lst x (k+1) cs) []).pi,V.bool (LV (V.lst x (k+
 1) cs) []).rq,V.bool (LV (V.lst x (k+1) cs) []).ds,V.bool (LV (V.lst x (k+1) cs) []).eb,V.bool (LV (V.lst x (k+1) cs) []).si,V.int IntKind.i64 (LV (V.lst x (k+
 1) cs) []).mo],Blk.ro false [V.str fi],Blk.ro false (V.str fi::cs),Blk.ro false [V.str fi],Blk.dead,Blk.ro false [V.str fi],Blk.ro false [V.str fi]]).mo==(LV
 (V.lst x (k+1) cs) []).mo then R (V.bool true)else R (V.bool false)else R (V.bool false)else R (V.bool false)else R (V.bool false)else R (V.bool false)else R
 (V.bool false)else R (V.bool false)else False else False else bif (List.take ((k+1-(IntKind.i64.wrap c).toNat)*1) (List.drop ((IntKind.i64.wrap c).toNat*1)
 cs)).length.beq ((k+1-(IntKind.i64.wrap c).toNat)*1)&&(List.take ((k+1-(IntKind.i64.wrap c).toNat)*1) (List.drop ((IntKind.i64.wrap c).toNat*1) cs)).all
 V.one then bif (1+(k+1-(IntKind.i64.wrap c).toNat)).ble 9223372036854775807&&((1+(k+1-(IntKind.i64.wrap c).toNat))*16).ble 140737488355328 then bif flatL
 (V.str fi::(List.take ((k+1-(IntKind.i64.wrap c).toNat)*1) (List.drop ((IntKind.i64.wrap c).toNat*1) cs)))&&true then bif OK (V.slice 8 0 (1+(k+1-
 (IntKind.i64.wrap c).toNat)) false 0 0) [Blk.ro false (clF w cs),Blk.ro false [V.bool (LV (V.lst x (k+1) cs) []).st,V.bool (LV (V.lst x (k+1) cs) []).pi,V.bool (LV
 (V.lst x (k+1) cs) []).rq,V.bool (LV (V.lst x (k+1) cs) []).ds,V.bool (LV (V.lst x (k+1) cs) []).eb,V.bool (LV (V.lst x (k+1) cs) []).si,V.int IntKind.i64 (LV
 (V.lst x (k+1) cs) []).mo],Blk.ro false [V.str fi],Blk.ro false (V.str fi::cs),Blk.ro false [V.str fi],Blk.dead,Blk.ro false [V.str fi],Blk.dead,Blk.ro false
 (V.str fi::(List.take ((k+1-(IntKind.i64.wrap c).toNat)*1) (List.drop ((IntKind.i64.wrap c).toNat*1) cs)))]then bif (LV (V.slice 8 0 (1+(k+1-
 (IntKind.i64.wrap c).toNat)) false 0 0) [Blk.ro false (clF w cs),Blk.ro false [V.bool (LV (V.lst x (k+1) cs) []).st,V.bool (LV (V.lst x (k+1) cs) []).pi,V.bool (LV
 (V.lst x (k+1) cs) []).rq,V.bool (LV (V.lst x (k+1) cs) []).ds,V.bool (LV (V.lst x (k+1) cs) []).eb,V.bool (LV (V.lst x (k+1) cs) []).si,V.int IntKind.i64 (LV
 (V.lst x (k+1) cs) []).mo],Blk.ro false [V.str fi],Blk.ro false (V.str fi::cs),Blk.ro false [V.str fi],Blk.dead,Blk.ro false [V.str fi],Blk.dead,Blk.ro false
 (V.str fi::(List.take ((k+1-(IntKind.i64.wrap c).toNat)*1) (List.drop ((IntKind.i64.wrap c).toNat*1) cs)))]).st==(LV (V.lst x (k+1) cs) []).st then bif (LV
 (V.slice 8 0 (1+(k+1-(IntKind.i64.wrap c).toNat)) false 0 0) [Blk.ro false (clF w cs),Blk.ro false [V.bool (LV (V.lst x (k+1) cs) []).st,V.bool (LV (V.lst x (k
 +1) cs) []).pi,V.bool (LV (V.lst x (k+1) cs) []).rq,V.bool (LV (V.lst x (k+1) cs) []).ds,V.bool (LV (V.lst x (k+1) cs) []).eb,V.bool (LV (V.lst x (k+1) cs)
 []).si,V.int IntKind.i64 (LV (V.lst x (k+1) cs) []).mo],Blk.ro false [V.str fi],Blk.ro false (V.str fi::cs),Blk.ro false [V.str fi],Blk.dead,Blk.ro false [V.str
 fi],Blk.dead,Blk.ro false (V.str fi::(List.take ((k+1-(IntKind.i64.wrap c).toNat)*1) (List.drop ((IntKind.i64.wrap c).toNat*1) cs)))]).pi==(LV (V.lst x (k+
 1) cs) []).pi then bif (LV (V.slice 8 0 (1+(k+1-(IntKind.i64.wrap c).toNat)) false 0 0) [Blk.ro false (clF w cs),Blk.ro false [V.bool (LV (V.lst x (k+1) cs)
 []).st,V.bool (LV (V.lst x (k+1) cs) []).pi,V.bool (LV (V.lst x (k+1) cs) []).rq,V.bool (LV (V.lst x (k+1) cs) []).ds,V.bool (LV (V.lst x (k+1) cs) []).eb,
 V.bool (LV (V.lst x (k+1) cs) []).si,V.int IntKind.i64 (LV (V.lst x (k+1) cs) []).mo],Blk.ro false [V.str fi],Blk.ro false (V.str fi::cs),Blk.ro false [V.str
 fi],Blk.dead,Blk.ro false [V.str fi],Blk.dead,Blk.ro false (V.str fi::(List.take ((k+1-(IntKind.i64.wrap c).toNat)*1) (List.drop ((IntKind.i64.wrap c).toNat*
 1) cs)))]).rq==(LV (V.lst x (k+1) cs) []).rq then bif (LV (V.slice 8 0 (1+(k+1-(IntKind.i64.wrap c).toNat)) false 0 0) [Blk.ro false (clF w cs),Blk.ro false
 [V.bool (LV (V.lst x (k+1) cs) []).st,V.bool (LV (V.lst x (k+1) cs) []).pi,V.bool (LV (V.lst x (k+1) cs) []).rq,V.bool (LV (V.lst x (k+1) cs) []).ds,V.bool
 (LV (V.lst x (k+1) cs) []).eb,V.bool (LV (V.lst x (k+1) cs) []).si,V.int IntKind.i64 (LV (V.lst x (k+1) cs) []).mo],Blk.ro false [V.str fi],Blk.ro false (V.str
 fi::cs),Blk.ro false [V.str fi],Blk.dead,Blk.ro false [V.str fi],Blk.dead,Blk.ro false (V.str fi::(List.take ((k+1-(IntKind.i64.wrap c).toNat)*1)
 (List.drop ((IntKind.i64.wrap c).toNat*1) cs)))]).ds==(LV (V.lst x (k+1) cs) []).ds then bif (LV (V.slice 8 0 (1+(k+1-(IntKind.i64.wrap c).toNat)) false 0 0)
 [Blk.ro false (clF w cs),Blk.ro false [V.bool (LV (V.lst x (k+1) cs) []).st,V.bool (LV (V.lst x (k+1) cs) []).pi,V.bool (LV (V.lst x (k+1) cs) []).rq,V.bool (LV
 (V.lst x (k+1) cs) []).ds,V.bool (LV (V.lst x (k+1) cs) []).eb,V.bool (LV (V.lst x (k+1) cs) []).si,V.int IntKind.i64 (LV (V.lst x (k+1) cs) []).mo],Blk.ro
 false [V.str fi],Blk.ro false (V.str fi::cs),Blk.ro false [V.str fi],Blk.dead,Blk.ro false [V.str fi],Blk.dead,Blk.ro false (V.str fi::(List.take ((k+1-
 (IntKind.i64.wrap c).toNat)*1) (List.drop ((IntKind.i64.wrap c).toNat*1) cs)))]).eb==(LV (V.lst x (k+1) cs) []).eb then bif (LV (V.slice 8 0 (1+(k+1-
 (IntKind.i64.wrap c).toNat)) false 0 0) [Blk.ro false (clF w cs),Blk.ro false [V.bool (LV (V.lst x (k+1) cs) []).st,V.bool (LV (V.lst x (k+1) cs) []).pi,V.bool (LV
 (V.lst x (k+1) cs) []).rq,V.bool (LV (V.lst x (k+1) cs) []).ds,V.bool (LV (V.lst x (k+1) cs) []).eb,V.bool (LV (V.lst x (k+1) cs) []).si,V.int IntKind.i64 (LV
 (V.lst x (k+1) cs) []).mo],Blk.ro false [V.str fi],Blk.ro false (V.str fi::cs),Blk.ro false [V.str fi],Blk.dead,Blk.ro false [V.str fi],Blk.dead,Blk.ro false
 (V.str fi::(List.take ((k+1-(IntKind.i64.wrap c).toNat)*1) (List.drop ((IntKind.i64.wrap c).toNat*1) cs)))]).si==(LV (V.lst x (k+1) cs) []).si then bif (LV
 (V.slice 8 0 (1+(k+1-(IntKind.i64.wrap c).toNat)) false 0 0) [Blk.ro false (clF w cs),Blk.ro false [V.bool (LV (V.lst x (k+1) cs) []).st,V.bool (LV (V.lst x (k
 +1) cs) []).pi,V.bool (LV (V.lst x (k+1) cs) []).rq,V.bool (LV (V.lst x (k+1) cs) []).ds,V.bool (LV (V.lst x (k+1) cs) []).eb,V.bool (LV (V.lst x (k+1) cs)
 []).si,V.int IntKind.i64 (LV (V.lst x (k+1) cs) []).mo],Blk.ro false [V.str fi],Blk.ro false (V.str fi::cs),Blk.ro false [V.str fi],Blk.dead,Blk.ro false [V.str
 fi],Blk.dead,Blk.ro false (V.str fi::(List.take ((k+1-(IntKind.i64.wrap c).toNat)*1) (List.drop ((IntKind.i64.wrap c).toNat*1) cs)))]).mo==(LV (V.lst x (k+
 1) cs) []).mo then R (V.bool true)else R (V.bool false)else R (V.bool false)else R (V.bool false)else R (V.bool false)else R (V.bool false)else R (V.bool false)
 else R (V.bool false)else False else False else False else False else False else False else False else bif (List.take (((IntKind.i64.wrap c).toNat-0)*1)
 cs).length.beq (((IntKind.i64.wrap c).toNat-0)*1)&&(List.take (((IntKind.i64.wrap c).toNat-0)*1) cs).all V.one then bif (0+((IntKind.i64.wrap c).toNat-
 0)).ble 9223372036854775807&&((0+((IntKind.i64.wrap c).toNat-0))*16).ble 140737488355328 then bif flatL ([]++List.take (((IntKind.i64.wrap c).toNat-0)*1)
 cs)&&true then bif ([]++List.take (((IntKind.i64.wrap c).toNat-0)*1) cs).length.beq ((0+((IntKind.i64.wrap c).toNat-0))*1)then bif (0+((IntKind.i64.wrap
 c).toNat-0)+1).ble 9223372036854775807&&((0+((IntKind.i64.wrap c).toNat-0)+1)*16).ble 140737488355328 then bif flatL ([]++List.take (((IntKind.i64.wrap
 c).toNat-0)*1) cs++[V.str fi])&&true then bif decide (0≤IntKind.i64.wrap c)then bif (IntKind.i64.wrap c).toNat.ble (k+1)&&(k+1).ble (k+1)then bif (k+
 1-(IntKind.i64.wrap c).toNat).beq 0 then bif (k+1-(IntKind.i64.wrap c).toNat).beq 0 then bif OK (V.slice 8 0 (0+((IntKind.i64.wrap c).toNat-0)+1) false 0 0)
 [Blk.ro false (clF w cs),Blk.ro false [V.bool (LV (V.lst x (k+1) cs) []).st,V.bool (LV (V.lst x (k+1) cs) []).pi,V.bool (LV (V.lst x (k+1) cs) []).rq,V.bool (LV
 (V.lst x (k+1) cs) []).ds,V.bool (LV (V.lst x (k+1) cs) []).eb,V.bool (LV (V.lst x (k+1) cs) []).si,V.int IntKind.i64 (LV (V.lst x (k+1) cs) []).mo],Blk.ro
 false [V.str fi],Blk.ro false (V.str fi::cs),Blk.ro false [V.str fi],Blk.dead,Blk.dead,Blk.ro false [V.str fi],Blk.ro false ([]++List.take (((IntKind.i64.wrap
 c).toNat-0)*1) cs++[V.str fi])]then bif (LV (V.slice 8 0 (0+((IntKind.i64.wrap c).toNat-0)+1) false 0 0) [Blk.ro false (clF w cs),Blk.ro false [V.bool (LV
 (V.lst x (k+1) cs) []).st,V.bool (LV (V.lst x (k+1) cs) []).pi,V.bool (LV (V.lst x (k+1) cs) []).rq,V.bool (LV (V.lst x (k+1) cs) []).ds,V.bool (LV (V.lst x
 (k+1) cs) []).eb,V.bool (LV (V.lst x (k+1) cs) []).si,V.int IntKind.i64 (LV (V.lst x (k+1) cs) []).mo],Blk.ro false [V.str fi],Blk.ro false (V.str fi::cs),
 Blk.ro false [V.str fi],Blk.dead,Blk.dead,Blk.ro false [V.str fi],Blk.ro false ([]++List.take (((IntKind.i64.wrap c).toNat-0)*1) cs++[V.str fi])]).st==(LV
 (V.lst x (k+1) cs) []).st then bif (LV (V.slice 8 0 (0+((IntKind.i64.wrap c).toNat-0)+1) false 0 0) [Blk.ro false (clF w cs),Blk.ro false [V.bool (LV (V.lst x (k
 +1) cs) []).st,V.bool (LV (V.lst x (k+1) cs) []).pi,V.bool (LV (V.lst x (k+1) cs) []).rq,V.bool (LV (V.lst x (k+1) cs) []).ds,V.bool (LV (V.lst x (k+1) cs)
 []).eb,V.bool (LV (V.lst x (k+1) cs) []).si,V.int IntKind.i64 (LV (V.lst x (k+1) cs) []).mo],Blk.ro false [V.str fi],Blk.ro false (V.str fi::cs),Blk.ro false
 [V.str fi],Blk.dead,Blk.dead,Blk.ro false [V.str fi],Blk.ro false ([]++List.take (((IntKind.i64.wrap c).toNat-0)*1) cs++[V.str fi])]).pi==(LV (V.lst x (k+
 1) cs) []).pi then bif (LV (V.slice 8 0 (0+((IntKind.i64.wrap c).toNat-0)+1) false 0 0) [Blk.ro false (clF w cs),Blk.ro false [V.bool (LV (V.lst x (k+1) cs)
 []).st,V.bool (LV (V.lst x (k+1) cs) []).pi,V.bool (LV (V.lst x (k+1) cs) []).rq,V.bool (LV (V.lst x (k+1) cs) []).ds,V.bool (LV (V.lst x (k+1) cs) []).eb,
 V.bool (LV (V.lst x (k+1) cs) []).si,V.int IntKind.i64 (LV (V.lst x (k+1) cs) []).mo],Blk.ro false [V.str fi],Blk.ro false (V.str fi::cs),Blk.ro false [V.str
 fi],Blk.dead,Blk.dead,Blk.ro false [V.str fi],Blk.ro false ([]++List.take (((IntKind.i64.wrap c).toNat-0)*1) cs++[V.str fi])]).rq==(LV (V.lst x (k+1) cs)
 []).rq then bif (LV (V.slice 8 0 (0+((IntKind.i64.wrap c).toNat-0)+1) false 0 0) [Blk.ro false (clF w cs),Blk.ro false [V.bool (LV (V.lst x (k+1) cs) []).st,
 V.bool (LV (V.lst x (k+1) cs) []).pi,V.bool (LV (V.lst x (k+1) cs) []).rq,V.bool (LV (V.lst x (k+1) cs) []).ds,V.bool (LV (V.lst x (k+1) cs) []).eb,V.bool (LV
 (V.lst x (k+1) cs) []).si,V.int IntKind.i64 (LV (V.lst x (k+1) cs) []).mo],Blk.ro false [V.str fi],Blk.ro false (V.str fi::cs),Blk.ro false [V.str fi],
 Blk.dead,Blk.dead,Blk.ro false [V.str fi],Blk.ro false ([]++List.take (((IntKind.i64.wrap c).toNat-0)*1) cs++[V.str fi])]).ds==(LV (V.lst x (k+1) cs)
 []).ds then bif (LV (V.slice 8 0 (0+((IntKind.i64.wrap c).toNat-0)+1) false 0 0) [Blk.ro false (clF w cs),Blk.ro false [V.bool (LV (V.lst x (k+1) cs) []).st,
 V.bool (LV (V.lst x (k+1) cs) []).pi,V.bool (LV (V.lst x (k+1) cs) []).rq,V.bool (LV (V.lst x (k+1) cs) []).ds,V.bool (LV (V.lst x (k+1) cs) []).eb,V.bool (LV
 (V.lst x (k+1) cs) []).si,V.int IntKind.i64 (LV (V.lst x (k+1) cs) []).mo],Blk.ro false [V.str fi],Blk.ro false (V.str fi::cs),Blk.ro false [V.str fi],
 Blk.dead,Blk.dead,Blk.ro false [V.str fi],Blk.ro false ([]++List.take (((IntKind.i64.wrap c).toNat-0)*1) cs++[V.str fi])]).eb==(LV (V.lst x (k+1) cs)
 []).eb then bif (LV (V.slice 8 0 (0+((IntKind.i64.wrap c).toNat-0)+1) false 0 0) [Blk.ro false (clF w cs),Blk.ro false [V.bool (LV (V.lst x (k+1) cs) []).st,
 V.bool (LV (V.lst x (k+1) cs) []).pi,V.bool (LV (V.lst x (k+1) cs) []).rq,V.bool (LV (V.lst x (k+1) cs) []).ds,V.bool (LV (V.lst x (k+1) cs) []).eb,V.bool (LV
 (V.lst x (k+1) cs) []).si,V.int IntKind.i64 (LV (V.lst x (k+1) cs) []).mo],Blk.ro false [V.str fi],Blk.ro false (V.str fi::cs),Blk.ro false [V.str fi],
 Blk.dead,Blk.dead,Blk.ro false [V.str fi],Blk.ro false ([]++List.take (((IntKind.i64.wrap c).toNat-0)*1) cs++[V.str fi])]).si==(LV (V.lst x (k+1) cs)
 []).si then bif (LV (V.slice 8 0 (0+((IntKind.i64.wrap c).toNat-0)+1) false 0 0) [Blk.ro false (clF w cs),Blk.ro false [V.bool (LV (V.lst x (k+1) cs) []).st,
 V.bool (LV (V.lst x (k+1) cs) []).pi,V.bool (LV (V.lst x (k+1) cs) []).rq,V.bool (LV (V.lst x (k+1) cs) []).ds,V.bool (LV (V.lst x (k+1) cs) []).eb,V.bool (LV
 (V.lst x (k+1) cs) []).si,V.int IntKind.i64 (LV (V.lst x (k+1) cs) []).mo],Blk.ro false [V.str fi],Blk.ro false (V.str fi::cs),Blk.ro false [V.str fi],
 Blk.dead,Blk.dead,Blk.ro false [V.str fi],Blk.ro false ([]++List.take (((IntKind.i64.wrap c).toNat-0)*1) cs++[V.str fi])]).mo==(LV (V.lst x (k+1) cs)
 []).mo then R (V.bool true)else R (V.bool false)else R (V.bool false)else R (V.bool false)else R (V.bool false)else R (V.bool false)else R (V.bool false)else R
 (V.bool false)else False else False else bif (List.take ((k+1-(IntKind.i64.wrap c).toNat)*1) (List.drop ((IntKind.i64.wrap c).toNat*1) cs)).length.beq ((k+1-
 (IntKind.i64.wrap c).toNat)*1)&&(List.take ((k+1-(IntKind.i64.wrap c).toNat)*1) (List.drop ((IntKind.i64.wrap c).toNat*1) cs)).all V.one then bif ([]++
 List.take (((IntKind.i64.wrap c).toNat-0)*1) cs++[V.str fi]).length.beq ((0+((IntKind.i64.wrap c).toNat-0)+1)*1)then bif (0+((IntKind.i64.wrap c).toNat-
 0)+1+(k+1-(IntKind.i64.wrap c).toNat)).ble 9223372036854775807&&((0+((IntKind.i64.wrap c).toNat-0)+1+(k+1-(IntKind.i64.wrap c).toNat))*16).ble
 140737488355328 then bif flatL ([]++List.take (((IntKind.i64.wrap c).toNat-0)*1) cs++[V.str fi]++List.take ((k+1-(IntKind.i64.wrap c).toNat)*1) (List.drop
 ((IntKind.i64.wrap c).toNat*1) cs))&&true then bif OK (V.slice 9 0 (0+((IntKind.i64.wrap c).toNat-0)+1+(k+1-(IntKind.i64.wrap c).toNat)) false 0 0)
 [Blk.ro false (clF w cs),Blk.ro false [V.bool (LV (V.lst x (k+1) cs) []).st,V.bool (LV (V.lst x (k+1) cs) []).pi,V.bool (LV (V.lst x (k+1) cs) []).rq,V.bool (LV
 (V.lst x (k+1) cs) []).ds,V.bool (LV (V.lst x (k+1) cs) []).eb,V.bool (LV (V.lst x (k+1) cs) []).si,V.int IntKind.i64 (LV (V.lst x (k+1) cs) []).mo],Blk.ro
 false [V.str fi],Blk.ro false (V.str fi::cs),Blk.ro false [V.str fi],Blk.dead,Blk.dead,Blk.ro false [V.str fi],Blk.dead,Blk.ro false ([]++List.take
 (((IntKind.i64.wrap c).toNat-0)*1) cs++[V.str fi]++List.take ((k+1-(IntKind.i64.wrap c).toNat)*1) (List.drop ((IntKind.i64.wrap c).toNat*1) cs))]then bif
 (LV (V.slice 9 0 (0+((IntKind.i64.wrap c).toNat-0)+1+(k+1-(IntKind.i64.wrap c).toNat)) false 0 0) [Blk.ro false (clF w cs),Blk.ro false [V.bool (LV (V.lst x
 (k+1) cs) []).st,V.bool (LV (V.lst x (k+1) cs) []).pi,V.bool (LV (V.lst x (k+1) cs) []).rq,V.bool (LV (V.lst x (k+1) cs) []).ds,V.bool (LV (V.lst x (k+1)
 cs) []).eb,V.bool (LV (V.lst x (k+1) cs) []).si,V.int IntKind.i64 (LV (V.lst x (k+1) cs) []).mo],Blk.ro false [V.str fi],Blk.ro false (V.str fi::cs),Blk.ro
 false [V.str fi],Blk.dead,Blk.dead,Blk.ro false [V.str fi],Blk.dead,Blk.ro false ([]++List.take (((IntKind.i64.wrap c).toNat-0)*1) cs++[V.str fi]++
 List.take ((k+1-(IntKind.i64.wrap c).toNat)*1) (List.drop ((IntKind.i64.wrap c).toNat*1) cs))]).st==(LV (V.lst x (k+1) cs) []).st then bif (LV (V.slice 9 0 (0
 +((IntKind.i64.wrap c).toNat-0)+1+(k+1-(IntKind.i64.wrap c).toNat)) false 0 0) [Blk.ro false (clF w cs),Blk.ro false [V.bool (LV (V.lst x (k+1) cs) []).st,
 V.bool (LV (V.lst x (k+1) cs) []).pi,V.bool (LV (V.lst x (k+1) cs) []).rq,V.bool (LV (V.lst x (k+1) cs) []).ds,V.bool (LV (V.lst x (k+1) cs) []).eb,V.bool (LV
 (V.lst x (k+1) cs) []).si,V.int IntKind.i64 (LV (V.lst x (k+1) cs) []).mo],Blk.ro false [V.str fi],Blk.ro false (V.str fi::cs),Blk.ro false [V.str fi],
 Blk.dead,Blk.dead,Blk.ro false [V.str fi],Blk.dead,Blk.ro false ([]++List.take (((IntKind.i64.wrap c).toNat-0)*1) cs++[V.str fi]++List.take ((k+1-
 (IntKind.i64.wrap c).toNat)*1) (List.drop ((IntKind.i64.wrap c).toNat*1) cs))]).pi==(LV (V.lst x (k+1) cs) []).pi then bif (LV (V.slice 9 0 (0+
 ((IntKind.i64.wrap c).toNat-0)+1+(k+1-(IntKind.i64.wrap c).toNat)) false 0 0) [Blk.ro false (clF w cs),Blk.ro false [V.bool (LV (V.lst x (k+1) cs) []).st,
 V.bool (LV (V.lst x (k+1) cs) []).pi,V.bool (LV (V.lst x (k+1) cs) []).rq,V.bool (LV (V.lst x (k+1) cs) []).ds,V.bool (LV (V.lst x (k+1) cs) []).eb,V.bool (LV
 (V.lst x (k+1) cs) []).si,V.int IntKind.i64 (LV (V.lst x (k+1) cs) []).mo],Blk.ro false [V.str fi],Blk.ro false (V.str fi::cs),Blk.ro false [V.str fi],
 Blk.dead,Blk.dead,Blk.ro false [V.str fi],Blk.dead,Blk.ro false ([]++List.take (((IntKind.i64.wrap c).toNat-0)*1) cs++[V.str fi]++List.take ((k+1-
 (IntKind.i64.wrap c).toNat)*1) (List.drop ((IntKind.i64.wrap c).toNat*1) cs))]).rq==(LV (V.lst x (k+1) cs) []).rq then bif (LV (V.slice 9 0 (0+
 ((IntKind.i64.wrap c).toNat-0)+1+(k+1-(IntKind.i64.wrap c).toNat)) false 0 0) [Blk.ro false (clF w cs),Blk.ro false [V.bool (LV (V.lst x (k+1) cs) []).st,
 V.bool (LV (V.lst x (k+1) cs) []).pi,V.bool (LV (V.lst x (k+1) cs) []).rq,V.bool (LV (V.lst x (k+1) cs) []).ds,V.bool (LV (V.lst x (k+1) cs) []).eb,V.bool (LV
 (V.lst x (k+1) cs) []).si,V.int IntKind.i64 (LV (V.lst x (k+1) cs) []).mo],Blk.ro false [V.str fi],Blk.ro false (V.str fi::cs),Blk.ro false [V.str fi],
 Blk.dead,Blk.dead,Blk.ro false [V.str fi],Blk.dead,Blk.ro false ([]++List.take (((IntKind.i64.wrap c).toNat-0)*1) cs++[V.str fi]++List.take ((k+1-
 (IntKind.i64.wrap c).toNat)*1) (List.drop ((IntKind.i64.wrap c).toNat*1) cs))]).ds==(LV (V.lst x (k+1) cs) []).ds then bif (LV (V.slice 9 0 (0+
 ((IntKind.i64.wrap c).toNat-0)+1+(k+1-(IntKind.i64.wrap c).toNat)) false 0 0) [Blk.ro false (clF w cs),Blk.ro false [V.bool (LV (V.lst x (k+1) cs) []).st,
 V.bool (LV (V.lst x (k+1) cs) []).pi,V.bool (LV (V.lst x (k+1) cs) []).rq,V.bool (LV (V.lst x (k+1) cs) []).ds,V.bool (LV (V.lst x (k+1) cs) []).eb,V.bool (LV
 (V.lst x (k+1) cs) []).si,V.int IntKind.i64 (LV (V.lst x (k+1) cs) []).mo],Blk.ro false [V.str fi],Blk.ro false (V.str fi::cs),Blk.ro false [V.str fi],
 Blk.dead,Blk.dead,Blk.ro false [V.str fi],Blk.dead,Blk.ro false ([]++List.take (((IntKind.i64.wrap c).toNat-0)*1) cs++[V.str fi]++List.take ((k+1-
 (IntKind.i64.wrap c).toNat)*1) (List.drop ((IntKind.i64.wrap c).toNat*1) cs))]).eb==(LV (V.lst x (k+1) cs) []).eb then bif (LV (V.slice 9 0 (0+
 ((IntKind.i64.wrap c).toNat-0)+1+(k+1-(IntKind.i64.wrap c).toNat)) false 0 0) [Blk.ro false (clF w cs),Blk.ro false [V.bool (LV (V.lst x (k+1) cs) []).st,
 V.bool (LV (V.lst x (k+1) cs) []).pi,V.bool (LV (V.lst x (k+1) cs) []).rq,V.bool (LV (V.lst x (k+1) cs) []).ds,V.bool (LV (V.lst x (k+1) cs) []).eb,V.bool (LV
 (V.lst x (k+1) cs) []).si,V.int IntKind.i64 (LV (V.lst x (k+1) cs) []).mo],Blk.ro false [V.str fi],Blk.ro false (V.str fi::cs),Blk.ro false [V.str fi],
 Blk.dead,Blk.dead,Blk.ro false [V.str fi],Blk.dead,Blk.ro false ([]++List.take (((IntKind.i64.wrap c).toNat-0)*1) cs++[V.str fi]++List.take ((k+1-
 (IntKind.i64.wrap c).toNat)*1) (List.drop ((IntKind.i64.wrap c).toNat*1) cs))]).si==(LV (V.lst x (k+1) cs) []).si then bif (LV (V.slice 9 0 (0+
 ((IntKind.i64.wrap c).toNat-0)+1+(k+1-(IntKind.i64.wrap c).toNat)) false 0 0) [Blk.ro false (clF w cs),Blk.ro false [V.bool (LV (V.lst x (k+1) cs) []).st,
 V.bool (LV (V.lst x (k+1) cs) []).pi,V.bool (LV (V.lst x (k+1) cs) []).rq,V.bool (LV (V.lst x (k+1) cs) []).ds,V.bool (LV (V.lst x (k+1) cs) []).eb,V.bool (LV
 (V.lst x (k+1) cs) []).si,V.int IntKind.i64 (LV (V.lst x (k+1) cs) []).mo],Blk.ro false [V.str fi],Blk.ro false (V.str fi::cs),Blk.ro false [V.str fi],
 Blk.dead,Blk.dead,Blk.ro false [V.str fi],Blk.dead,Blk.ro false ([]++List.take (((IntKind.i64.wrap c).toNat-0)*1) cs++[V.str fi]++List.take ((k+1-
 (IntKind.i64.wrap c).toNat)*1) (List.drop ((IntKind.i64.wrap c).toNat*1) cs))]).mo==(LV (V.lst x (k+1) cs) []).mo then R (V.bool true)else R (V.bool false)else
 R (V.bool false)else R (V.bool false)else R (V.bool false)else R (V.bool false)else R (V.bool false)else R (V.bool false)else False else False else False else False
 else False else False else False else False else False else False else False else False else False else False else False else R (V.bool true)else R (V.bool true)else R
 (V.bool true)else R (V.bool true)else R (V.bool true)else R (V.bool true)else R (V.bool true)else False else False else R (V.bool false)else R (V.bool false)else R
 (V.bool false)else R (V.bool false)else R (V.bool false)else R (V.bool false)else R (V.bool false)else False else False else False else R (V.bool false)else R
 (V.bool false)else R (V.bool false)else R (V.bool false)else R (V.bool false)else R (V.bool false)else R (V.bool false)else False else False else False else False):=by kernel_rfl
theorem strs_and:∀l e:List (List UInt8),strs l++strs e=strs (l++e)
 |[],_=>rfl
 |s::r,e=>by
  show V.str s::(strs r++strs e)=V.str s::strs (r++e);rw[strs_and r e]
theorem strs_end(l:List (List UInt8))(f:List UInt8):strs l++[V.str f]=strs (l++[f]):=strs_and l [f]
theorem strs_head(l:List (List UInt8))(f:List UInt8):V.str f::strs l=strs (f::l):=rfl
theorem say_first(fi:List UInt8)(l:List (List UInt8)):ofC 250 (fi::l)=sayC l:=rfl
theorem all_take{p:List UInt8→Bool}{l:List (List UInt8)}(h:l.all p=true)(C:Nat):(l.take C).all p=true:=by
 rw[List.all_eq_true]at*
 intro s hs;exact h s (List.mem_of_mem_take hs)
theorem all_drop{p:List UInt8→Bool}{l:List (List UInt8)}(h:l.all p=true)(C:Nat):(l.drop C).all p=true:=by
 rw[List.all_eq_true]at*
 intro s hs;exact h s (List.mem_of_mem_drop hs)
theorem room{n:Nat}(h:n≤2000):(n.ble 9223372036854775807&&(n*16).ble 140737488355328)=true:=by
 rw[Nat.ble_eq_true_of_le (by omega:n≤9223372036854775807),Nat.ble_eq_true_of_le (by omega:n*16≤140737488355328)];rfl
theorem say_end{l:List (List UInt8)}{f:List UInt8}(h:sayC [f]=cp0):sayC (l++[f])=sayC l:=by
 have:=say_put (l:=l) l.length h;rw[List.take_of_length_le (Nat.le_refl _),List.drop_of_length_le (Nat.le_refl _)]at this;exact this
theorem say_start{l:List (List UInt8)}{f:List UInt8}(h:sayC [f]=cp0):sayC (f::l)=sayC l:=by
 have:=say_put (l:=l) 0 h;exact this
theorem pick_c{a:Int}{k:Nat}(hk:k≤900){c:Int}(hc:c=(IntKind.u64.wrap a).tmod (IntKind.u64.wrap (IntKind.i64.wrap (((k+1:Nat):Int)+1)))):∃C:Nat,c=(C:Int)∧C≤k+1:=by
 have e1:IntKind.i64.wrap (((k+1:Nat):Int)+1)=((k+2:Nat):Int):=by rw[IntKind.wrap_i64];omega
 have e2:IntKind.u64.wrap ((k+2:Nat):Int)=((k+2:Nat):Int):=by rw[IntKind.wrap_u64];omega
 rw[e1,e2]at hc;have e3:0≤IntKind.u64.wrap a:=by rw[IntKind.wrap_u64];omega
 generalize IntKind.u64.wrap a=u at hc e3;rw[Int.tmod_eq_emod_of_nonneg e3]at hc;have g1:=Int.emod_nonneg u (show((k+2:Nat):Int)≠0 by omega);have g2:=Int.emod_lt_of_pos u (show(0:Int)<((k+2:Nat):Int) by omega);rw[←hc]at g1 g2;refine⟨c.toNat,?_,?_⟩<;>omega
theorem nz{k:Nat}(hk:k≤900):(!IntKind.u64.wrap (IntKind.i64.wrap (((k+1:Nat):Int)+1))==0)=true:=by
 have e1:IntKind.i64.wrap (((k+1:Nat):Int)+1)=((k+2:Nat):Int):=by rw[IntKind.wrap_i64];omega
 have e2:IntKind.u64.wrap ((k+2:Nat):Int)=((k+2:Nat):Int):=by rw[IntKind.wrap_u64];omega
 rw[e1,e2];have:((k+2:Nat):Int)≠0:=by omega
 simp only[bne_iff_ne,ne_eq,Bool.not_eq_true',beq_eq_false_iff_ne];exact this
theorem clPre_ok(x:Value)(w nu:Int)(fi:List UInt8)(a:Int)(k:Nat)(l:List (List UInt8))(hl:l.length=k+1)(hle:k+1≤900)(hs:l.all shortS=true):clPre ⟨x,k+1,strs l,w,nu,fi,a,0⟩=true:=by
 unfold clPre;have h1:okS (k+1) (strs l)=true:=by rw[←hl];exact okS_mk (by omega)
 have h2:((strs l).map strOfV).all okL=true:=by
  rw[strs_strOf,List.all_eq_true];intro s hs1;have:=Nat.le_of_ble_eq_true (List.all_eq_true.1 hs s hs1);unfold okL;exact decide_eq_true (by omega)
 have h3:Nat.ble 0 (k+1)=true:=Nat.ble_eq_true_of_le (by omega);have h4:Nat.ble (k+1) 100000=true:=Nat.ble_eq_true_of_le (by omega);show(okS (k+1) (strs l)&&(Nat.ble 0 (k+1)&&(Nat.ble (k+1) 100000&&((strs l).map strOfV).all okL)))=true;rw[h1,h2,h3,h4];rfl
theorem cl_closeB(x:Value)(w nu:Int)(fi:List UInt8)(a:Int)(k:Nat)(l:List (List UInt8))(hl:l.length=k+1)(hbig:l.length≤9223372036854775807):FnSat Tryd.prog 4 [.lst x (k+1) (strs l),.int .u64 w,.int .i64 nu,.str fi,.int .i64 a] [] (fun v _=>v=.bool true):=by
 refine runW_ok (Z:=lzR) (lim:=9) (n:=10) mixed CLT_ok ?_;rw[cl_lawB];have hO:loOK (.lst x (k+1) (strs l)) []=true:=by unfold loOK;rw[view_lst hl.symm];exact Nat.ble_eq_true_of_le hbig
 have hB:loB (.lst x (k+1) (strs l)) []=longS l:=by unfold loB;rw[view_lst hl.symm]
 rw[hO,hB,cond_true];refine bif_intro (fun _=>rfl) (fun hlong=>bif_intro (fun _=>rfl) (fun hf=>⟨cl_fits0 x (k+1) (strs l) w nu fi a 0 _,?_⟩));obtain⟨hle,hs⟩:=not_long hlong;rw[hl]at hle;have hk:k≤900:=by omega
 have hf:shortS fi=true:=Nat.ble_eq_true_of_le (by have:=of_decide_eq_false hf;omega);have k1:olOK (.lst x (k+1) (strs l)) []=true∧olV (.lst x (k+1) (strs l)) []=sayC l:=ol_view (view_lst hl.symm) (by omega) hs;have q1:([fi]:List (List UInt8)).all shortS=true:=by rw[List.all_cons,hf];rfl
 have q2:(fi::l).all shortS=true:=by rw[List.all_cons,hf,hs];rfl
 have e2:(fi::l).length=k+2:=by rw[List.length_cons,hl]
 have s1:([fi]:List (List UInt8)).length=1:=rfl;have e3:(clT w l).length=k+1:=by unfold clT;rw[List.length_map,hl]
 have tr:∀C:Nat,(l.drop C).take (k+1-C)=l.drop C:=fun C=>List.take_of_length_le (by rw[List.length_drop,hl];omega);refine must_intro (clPre_ok x w nu fi a k l hl hle hs) ?_;rw[k1.1,k1.2,cond_true];simp only[clF_eq,strs_strOf,Nat.mul_one,Nat.zero_add,Nat.sub_zero,List.nil_append,take_strs,drop_strs,tr,strs_head,strs_end,strs_and,strs_len,strs_one,strs_flat,hl,Nat.beq_refl,Bool.and_true,Bool.and_self,cond_true];refine must_intro (olr (own:=false) (t:=9) (clT w l) (by first|exact .inl rfl|exact .inr rfl) (by rw[e3]) (by omega) (turn_short w l hs)).1 ?_;rw[(olr (own:=false) (t:=9) (clT w l) ?_ ?_ (by omega) (turn_short w l hs)).2]
 rotate_left
 ·first|exact .inl rfl|exact .inr rfl
 ·rw[e3]
 rw[say_turn];simp only[beq_self_eq_true,cond_true];refine must_intro (room (by omega)) ?_;refine must_intro (ofr (own:=false) (t:=9) (fi::l) 250 (by first|exact .inl rfl|exact .inr rfl) (by omega) (by omega) q2).1 ?_;rw[(ofr (own:=false) (t:=9) (fi::l) 250 ?_ ?_ (by omega) q2).2]
 rotate_left
 ·first|exact .inl rfl|exact .inr rfl
 ·omega
 rw[say_first];simp only[beq_self_eq_true,cond_true];refine bif_intro (fun hnu=>?_) (fun hnu=>?_)
 ·skip
  refine must_intro (room (by omega)) ?_;refine must_intro (ofr (own:=false) (t:=9) (fi::l) nu (by first|exact .inl rfl|exact .inr rfl) (by omega) (by omega) q2).1 ?_;rw[(ofr (own:=false) (t:=9) (fi::l) nu ?_ ?_ (by omega) q2).2]
  rotate_left
  ·first|exact .inl rfl|exact .inr rfl
  ·omega
  rw[of_not hnu];simp only[cp0,beq_self_eq_true,cond_true];refine must_intro (nz hk) (fun c hc=>?_);obtain⟨C,rfl,hC⟩:=pick_c hk hc;clear hc;have w1:IntKind.i64.wrap (C:Int)=(C:Int):=by rw[IntKind.wrap_i64];omega
  refine must_intro (olr (own:=false) (t:=9) ([fi]) (by first|exact .inl rfl|exact .inr rfl) (by omega) (by omega) q1).1 ?_;rw[(olr (own:=false) (t:=9) ([fi]) ?_ ?_ (by omega) q1).2]
  rotate_left
  ·first|exact .inl rfl|exact .inr rfl
  ·omega
  refine bif_intro (fun h1=>bif_intro (fun h2=>bif_intro (fun h3=>bif_intro (fun h4=>bif_intro (fun h5=>bif_intro (fun h6=>bif_intro (fun h7=>?_) (fun _=>trivial)) (fun _=>trivial)) (fun _=>trivial)) (fun _=>trivial)) (fun _=>trivial)) (fun _=>trivial)) (fun _=>trivial);have hf0:=say_nothing h1 h2 h3 h4 h5 h6 h7;have d1:(l.drop C).length=k+1-C:=by rw[List.length_drop,hl]
  have d2:(l.take C).length=C:=by rw[List.length_take,hl];omega
  have d3:(l.take C++[fi]).length=C+1:=by rw[List.length_append,d2];rfl
  have d4:(l.take C++[fi]++l.drop C).length=k+2:=by rw[List.length_append,d3,d1];omega
  have d5:(fi::l.drop C).length=k+1-C+1:=by rw[List.length_cons,d1]
  have p1:(l.take C++[fi]).all shortS=true:=by rw[List.all_append,all_take hs,q1];rfl
  have p2:(l.take C++[fi]++l.drop C).all shortS=true:=by rw[List.all_append,p1,all_drop hs];rfl
  have p3:(fi::l.drop C).all shortS=true:=by rw[List.all_cons,hf,all_drop hs];rfl
  have b1:Nat.ble C (k+1)=true:=Nat.ble_eq_true_of_le hC;have z1:decide ((0:Int)≤(C:Int))=true:=decide_eq_true (by omega);have z2:Nat.ble (k+1) (k+1)=true:=Nat.ble_eq_true_of_le (Nat.le_refl _);simp only[w1,Int.toNat_natCast,z1,z2,b1,d1,d2,d3,Nat.beq_refl,Bool.and_true,Bool.true_and,Bool.and_self,cond_true];have cc:C.beq 0=true∨C.beq 0=false:=by cases C.beq 0<;>simp
  have cd:(k+1-C).beq 0=true∨(k+1-C).beq 0=false:=by cases(k+1-C).beq 0<;>simp
  rcases cc with cc|cc<;>rcases cd with cd|cd
  ·have:=Nat.eq_of_beq_eq_true cc;have:=Nat.eq_of_beq_eq_true cd;omega
  ·have c0:C=0:=Nat.eq_of_beq_eq_true cc;simp only[cc,cd,cond_true,cond_false];refine must_intro (room (by omega)) ?_;refine must_intro (olr (own:=false) (t:=9) (fi::l.drop C) (by first|exact .inl rfl|exact .inr rfl) (by omega) (by omega) p3).1 ?_;rw[(olr (own:=false) (t:=9) (fi::l.drop C) ?_ ?_ (by omega) p3).2]
   rotate_left
   ·first|exact .inl rfl|exact .inr rfl
   ·omega
   rw[say_start hf0,c0,List.drop_zero];simp only[beq_self_eq_true,cond_true]
  ·have c0:C=k+1:=by have:=Nat.eq_of_beq_eq_true cd;omega
   simp only[cc,cd,cond_true,cond_false];refine must_intro (room (by omega)) ?_;refine must_intro (room (by omega)) ?_;refine must_intro (olr (own:=false) (t:=9) (l.take C++[fi]) (by first|exact .inl rfl|exact .inr rfl) (by omega) (by omega) p1).1 ?_;rw[(olr (own:=false) (t:=9) (l.take C++[fi]) ?_ ?_ (by omega) p1).2]
   rotate_left
   ·first|exact .inl rfl|exact .inr rfl
   ·omega
   rw[say_end hf0,c0,←hl,List.take_length];simp only[beq_self_eq_true,cond_true]
  ·skip
   simp only[cc,cd,cond_true,cond_false];refine must_intro (room (by omega)) ?_;refine must_intro (room (by omega)) ?_;refine must_intro (room (by omega)) ?_;refine must_intro (olr (own:=false) (t:=9) (l.take C++[fi]++l.drop C) (by first|exact .inl rfl|exact .inr rfl) (by omega) (by omega) p2).1 ?_;rw[(olr (own:=false) (t:=9) (l.take C++[fi]++l.drop C) ?_ ?_ (by omega) p2).2]
   rotate_left
   ·first|exact .inl rfl|exact .inr rfl
   ·omega
   rw[List.append_assoc,List.singleton_append,say_put C hf0];simp only[beq_self_eq_true,cond_true]
 ·skip
  refine must_intro (nz hk) (fun c hc=>?_);obtain⟨C,rfl,hC⟩:=pick_c hk hc;clear hc;have w1:IntKind.i64.wrap (C:Int)=(C:Int):=by rw[IntKind.wrap_i64];omega
  refine must_intro (olr (own:=false) (t:=9) ([fi]) (by first|exact .inl rfl|exact .inr rfl) (by omega) (by omega) q1).1 ?_;rw[(olr (own:=false) (t:=9) ([fi]) ?_ ?_ (by omega) q1).2]
  rotate_left
  ·first|exact .inl rfl|exact .inr rfl
  ·omega
  refine bif_intro (fun h1=>bif_intro (fun h2=>bif_intro (fun h3=>bif_intro (fun h4=>bif_intro (fun h5=>bif_intro (fun h6=>bif_intro (fun h7=>?_) (fun _=>trivial)) (fun _=>trivial)) (fun _=>trivial)) (fun _=>trivial)) (fun _=>trivial)) (fun _=>trivial)) (fun _=>trivial);have hf0:=say_nothing h1 h2 h3 h4 h5 h6 h7;have d1:(l.drop C).length=k+1-C:=by rw[List.length_drop,hl]
  have d2:(l.take C).length=C:=by rw[List.length_take,hl];omega
  have d3:(l.take C++[fi]).length=C+1:=by rw[List.length_append,d2];rfl
  have d4:(l.take C++[fi]++l.drop C).length=k+2:=by rw[List.length_append,d3,d1];omega
  have d5:(fi::l.drop C).length=k+1-C+1:=by rw[List.length_cons,d1]
  have p1:(l.take C++[fi]).all shortS=true:=by rw[List.all_append,all_take hs,q1];rfl
  have p2:(l.take C++[fi]++l.drop C).all shortS=true:=by rw[List.all_append,p1,all_drop hs];rfl
  have p3:(fi::l.drop C).all shortS=true:=by rw[List.all_cons,hf,all_drop hs];rfl
  have b1:Nat.ble C (k+1)=true:=Nat.ble_eq_true_of_le hC;have z1:decide ((0:Int)≤(C:Int))=true:=decide_eq_true (by omega);have z2:Nat.ble (k+1) (k+1)=true:=Nat.ble_eq_true_of_le (Nat.le_refl _);simp only[w1,Int.toNat_natCast,z1,z2,b1,d1,d2,d3,Nat.beq_refl,Bool.and_true,Bool.true_and,Bool.and_self,cond_true];have cc:C.beq 0=true∨C.beq 0=false:=by cases C.beq 0<;>simp
  have cd:(k+1-C).beq 0=true∨(k+1-C).beq 0=false:=by cases(k+1-C).beq 0<;>simp
  rcases cc with cc|cc<;>rcases cd with cd|cd
  ·have:=Nat.eq_of_beq_eq_true cc;have:=Nat.eq_of_beq_eq_true cd;omega
  ·have c0:C=0:=Nat.eq_of_beq_eq_true cc;simp only[cc,cd,cond_true,cond_false];refine must_intro (room (by omega)) ?_;refine must_intro (olr (own:=false) (t:=9) (fi::l.drop C) (by first|exact .inl rfl|exact .inr rfl) (by omega) (by omega) p3).1 ?_;rw[(olr (own:=false) (t:=9) (fi::l.drop C) ?_ ?_ (by omega) p3).2]
   rotate_left
   ·first|exact .inl rfl|exact .inr rfl
   ·omega
   rw[say_start hf0,c0,List.drop_zero];simp only[beq_self_eq_true,cond_true]
  ·have c0:C=k+1:=by have:=Nat.eq_of_beq_eq_true cd;omega
   simp only[cc,cd,cond_true,cond_false];refine must_intro (room (by omega)) ?_;refine must_intro (room (by omega)) ?_;refine must_intro (olr (own:=false) (t:=9) (l.take C++[fi]) (by first|exact .inl rfl|exact .inr rfl) (by omega) (by omega) p1).1 ?_;rw[(olr (own:=false) (t:=9) (l.take C++[fi]) ?_ ?_ (by omega) p1).2]
   rotate_left
   ·first|exact .inl rfl|exact .inr rfl
   ·omega
   rw[say_end hf0,c0,←hl,List.take_length];simp only[beq_self_eq_true,cond_true]
  ·skip
   simp only[cc,cd,cond_true,cond_false];refine must_intro (room (by omega)) ?_;refine must_intro (room (by omega)) ?_;refine must_intro (room (by omega)) ?_;refine must_intro (olr (own:=false) (t:=9) (l.take C++[fi]++l.drop C) (by first|exact .inl rfl|exact .inr rfl) (by omega) (by omega) p2).1 ?_;rw[(olr (own:=false) (t:=9) (l.take C++[fi]++l.drop C) ?_ ?_ (by omega) p2).2]
   rotate_left
   ·first|exact .inl rfl|exact .inr rfl
   ·omega
   rw[List.append_assoc,List.singleton_append,say_put C hf0];simp only[beq_self_eq_true,cond_true]
theorem cl_close(x:Value)(l:List (List UInt8))(w nu:Int)(fi:List UInt8)(a:Int)(h:l.length≤9223372036854775807):
  FnSat Tryd.prog 4 [lstS x l,.int .u64 w,.int .i64 nu,.str fi,.int .i64 a] [] (fun v _=>v=.bool true):=by
 unfold lstS;cases l with
 |nil=>exact cl_closeA x w nu fi a
 |cons s r=>exact cl_closeB x w nu fi a r.length (s::r) rfl h
end Go.Proofs.YtmcdajbfomngcaaDoor
namespace Go.Proofs.YtmcdajbfomngcaaDoor
open Go Go.Vm Go.RowKit
open Go.ChangeShapes Go.WideShapes Go.ChangeAt
set_option linter.unusedVariables false
set_option linter.unusedSectionVars false
set_option maxRecDepth 100000
def strsSh:Sh:=.lst .str
theorem strsSh_ok:shOk Tryd.prog 9 strsSh 25=true:=by kernel_rfl
def IsStrs(w:World)(v:Value):Prop:=∃xan an,@real gl (Frz.of w) [] (lstS xan an)=some v∧an.length≤maxLen
theorem open_Strs{H:Type}{enc:TypeId×Value→H}{W:World}{b0:Nat}{r:Reach}{v:Value}{d:DataW H}{ps:List MemPlace}
  (hval:Value.okWide Tryd.prog W r b0 25 v)(hd:DataW.Trod enc Tryd.prog W 0 (fun _=>true) true 25 v d ps):IsStrs W v:=by
 obtain⟨sa,sl,sc,rfl⟩:=okWide_slice Tryd.underlying25 hval;obtain⟨fuel,hf⟩:=hd;obtain⟨dd,h1,h2⟩:=@open_sh gl _ _ _ _ _ _ _ 9 strsSh 25 fuel _ _ strsSh_ok hf;obtain⟨xan,ds_an,q_an,w_an,y_an⟩:=ofLst h1;subst q_an;obtain⟨an,c_an,m_an⟩:=strsD _ ds_an y_an;have n_an:ds_an.length=an.length:=by rw[c_an,List.length_map]
 simp only[cellsD,cellsDs,m_an,n_an,List.append_nil,List.cons_append,List.nil_append]at h2;have h3:=@realL_of0 gl (Frz.of W) [] _ _ h2;refine⟨xan,an,?_,by rw[←n_an];exact w_an⟩;simp only[realL]at h3;split at h3
 ·rename_i q1 q2 q3 q4;obtain⟨e1,_⟩:=List.cons.inj (Option.some.inj h3);subst e1;exact q3
 ·cases h3
theorem maxLen_eq:maxLen=9223372036854775807:=by decide
theorem bytes_str{w:World}(s:ByteArray):@real gl (Frz.of w) [] (.str s.data.toList)=some (.string s):=by simp[real]
theorem capsLetters_walk(v0:Value)(a1:Int)(a2:Int)(a3:ByteArray)(a4:Int)(w:World)(x0:IsStrs w v0)(w1:(Lit.int .u64 a1).wf=true)(w2:(Lit.int .i64 a2).wf=true)(w3:a3.size≤maxLen)(w4:(Lit.int .i64 a4).wf=true)(hg:@GOk gl (Frz.of w) w.heap.size w):
  Calls Tryd.prog 4 #[v0,.int .u64 a1,.int .i64 a2,.string a3,.int .i64 a4] w (fun e w'=>e=.returned (.bool true)∧Below w.heap.size w w'):=by
 obtain⟨xan_0,an_0,re0,hy_an_0⟩:=x0;refine @frz_law gl Tryd.prog 4 [lstS xan_0 an_0,.int .u64 a1,.int .i64 a2,.str a3.data.toList,.int .i64 a4] [v0,.int .u64 a1,.int .i64 a2,.string a3,.int .i64 a4] w (@cl_close (Frz.of w) xan_0 an_0 a1 a2 a3.data.toList a4 (by rw[maxLen_eq]at hy_an_0;exact hy_an_0)) ?_ hg;simp only[realL,bytes_str,re0]
 try rfl
end Go.Proofs.YtmcdajbfomngcaaDoor
namespace Go.Proofs.YtmcdajbfomngcaaDoor
open Go Go.Vm Go.RowKit
open Go.ChangeShapes Go.WideShapes Go.ChangeAt Go.WideMaps Go.WideElems
set_option linter.unusedVariables false
set_option linter.unusedSectionVars false
set_option maxRecDepth 100000
variable [Φ:Frz]
def partsD:DataW Unit→List (DataW Unit)
 |.agg l=>l
 |_=>[]
def ofD:DataW Unit→V
 |.lit (.int k n)=>.int k n
 |_=>.bool false
theorem var_heap{P:Program}{w:World}{n:String}{g:Nat}{cs:Array Value}(hg:P.globalNamed n=some g)(h:w.var? P n=some cs):∃t fz,w.heap[g]?=some (.cells cs t fz):=by
 simp only[World.var?,hg,Option.bind_some]at h;split at h
 ·rename_i c t fz hb;cases h;exact⟨t,fz,hb⟩
 ·cases h
section
def Cells(W:World)(g:Nat)(C:List V):Prop:=∃arr t fz,W.heap[g]?=some (.cells arr t fz)∧(∀i v,C[i]?=some v→∃x,real [] v=some x∧arr[0+i]?=some x)∧arr.size=0+C.length
theorem int_cells{W:World}{n:String}{g t0 t e N f0:Nat}{k:IntKind}{C:List V}{d:DataW Unit}{cs0:Array Value}{p0:List MemPlace}{sp:Nat→Bool}{held:Bool}{enc:TypeId×Value→Unit}(hg:Tryd.prog.globalNamed n=some g)(hu:Tryd.prog.underlying t=some (.array N e))(hk:Tryd.prog.underlying e=some (.int k))(hw:Tryd.prog.cellsOf e=1)(hct:Tryd.prog.cellsOf t=N)
  (hd:d=.agg (partsD d))(hC:C=(partsD d).map ofD)(ht0:t0=t)(hv0:W.var? Tryd.prog n=some cs0)(hd0:DataW.trod enc Tryd.prog W 0 sp held f0 t0 cs0.toList=some (d,p0)):Cells W g C:=by
 subst ht0;obtain⟨ty,fz,hheap⟩:=var_heap hg hv0;obtain⟨xs,m1,rfl,hx1,hlen,hn,hel⟩:=DataW.trod_array hu hd0;rw[hd]at hx1;simp only[Prod.mk.injEq,DataW.agg.injEq]at hx1;have hD:=hx1.1;refine⟨cs0,ty,fz,hheap,fun i v hv=>?_,?_⟩
 ·rw[hC,hD,List.getElem?_map,List.getElem?_map]at hv;cases hxi:xs[i]? with
  |none=>rw[hxi]at hv;cases hv
  |some x=>
   rw[hxi]at hv;simp only[Option.map_some,Option.some.injEq]at hv;have hi:i<N:=by rw[←hn];exact(List.getElem?_eq_some_iff.1 hxi).1
   have h1:=hel i hi;rw[hxi,hw,Nat.mul_one]at h1;obtain⟨a,e0,e1,wa⟩:=DataW.trod_int hk h1;subst e1;simp only[ofD]at hv;subst hv;refine⟨.int k a,rfl,?_⟩;rw[Nat.zero_add];have e2:((cs0.toList.drop i).take 1)[0]?=some (Value.int k a):=by rw[e0];rfl
   rw[List.getElem?_take,if_pos (by omega),List.getElem?_drop,Nat.add_zero]at e2;simpa using e2
 ·rw[hC,hD,Nat.zero_add,List.length_map,List.length_map,hn,←hct];simpa using hlen
end
theorem plain_part{P:Program}{l:List (String×DataW Unit)}{w:World}(h:laidMetH P l w):laidMet P (l.filter fun x=>x.2.handleName?.isNone) w:=by
 unfold laidMetH at h;generalize hfl:(l.filter fun x=>x.2.handleName?.isSome)=fl at h;cases fl with
 |nil=>
  have e:(l.filter fun x=>x.2.handleName?.isNone)=l:=by
   rw[List.filter_eq_self];intro x hx;have:=(List.filter_eq_nil_iff.1 hfl) x hx;cases hn:x.2.handleName? with
   |none=>rfl
   |some s=>rw[hn]at this;exact absurd rfl this
  rw[e];exact h
 |cons a b=>exact h.1
theorem laid_var{P:Program}{w:World}{n:String}{d:DataW Unit}:∀{l:List (String×DataW Unit)} {ps:List MemPlace},DataW.LaidVars P w l ps→(n,d)∈l→∃g t cs fuel p,P.globalNamed n=some g∧(P.globals[g]?).map (·.type)=some t∧w.var? P n=some cs∧DataW.trod (fun _=>()) P w 0 (fun _=>true) false fuel t cs.toList=some (d,p)
 |[],_,_,h=>by cases h
 |(n',d')::r,ps,h,hm=>by
  obtain⟨g,t,cs,fuel,p,q,h1,h2,h3,h4,h5,_⟩:=h;rcases List.mem_cons.1 hm with e|hm
  ·cases e;exact⟨g,t,cs,fuel,p,h1,h2,h3,h4⟩
  ·exact laid_var h5 hm
theorem plain_var{P:Program}{l:List (String×DataW Unit)}{w:World}(h:laidMetH P l w){n:String}{d:DataW Unit}(hm:(n,d)∈l)(hn:d.handleName?.isNone=true):∃g t cs fuel p,P.globalNamed n=some g∧(P.globals[g]?).map (·.type)=some t∧w.var? P n=some cs∧DataW.trod (fun _=>()) P w 0 (fun _=>true) false fuel t cs.toList=some (d,p):=by
 obtain⟨ps,hl,_,_⟩:=plain_part h;exact laid_var hl (List.mem_filter.2 ⟨hm,hn⟩)
theorem own:ownKnob Tryd.prog.godebug=none:=by kernel_rfl
theorem cells_6{W:World}(h:laidMetH Tryd.prog Rows.capsLettersRow.laid W):Cells W 6 powC:=by
 have hm:("internal/strconv.uint64pow10",(Rows.laid_internal_strconv_uint64pow10:DataW Unit))∈Rows.capsLettersRow.laid:=List.mem_of_getElem? (i:=2) rfl;obtain⟨g,t,cs,fuel,p,h1,h2,h3,h4⟩:=plain_var h hm rfl;have e1:Tryd.prog.globalNamed "internal/strconv.uint64pow10"=some 6:=by kernel_rfl
 obtain rfl:=Option.some.inj (e1.symm.trans h1);have e2:(Tryd.prog.globals[6]?).map (·.type)=some 142:=by kernel_rfl
 exact int_cells (n:= "internal/strconv.uint64pow10") (t:=142) (e:=30) (N:=20) (k:=.u64) e1 (by kernel_rfl) (by kernel_rfl) (by kernel_rfl) (by kernel_rfl) rfl (by kernel_rfl) (Option.some.inj (e2.symm.trans h2)).symm h3 h4
theorem cells_2{W:World}(h:laidMetH Tryd.prog Rows.capsLettersRow.laid W):Cells W 2 firstC:=by
 have hm:("unicode/utf8.first",(Rows.laid_unicode_utf8_first:DataW Unit))∈Rows.capsLettersRow.laid:=List.mem_of_getElem? (i:=6) rfl;obtain⟨g,t,cs,fuel,p,h1,h2,h3,h4⟩:=plain_var h hm rfl;have e1:Tryd.prog.globalNamed "unicode/utf8.first"=some 2:=by kernel_rfl
 obtain rfl:=Option.some.inj (e1.symm.trans h1);have e2:(Tryd.prog.globals[2]?).map (·.type)=some 117:=by kernel_rfl
 exact int_cells (n:= "unicode/utf8.first") (t:=117) (e:=5) (N:=256) (k:=.u8) e1 (by kernel_rfl) (by kernel_rfl) (by kernel_rfl) (by kernel_rfl) rfl (by kernel_rfl) (Option.some.inj (e2.symm.trans h2)).symm h3 h4
theorem cells_3{W:World}(h:laidMetH Tryd.prog Rows.capsLettersRow.laid W):Cells W 3 accC:=by
 have hm:("unicode/utf8.acceptRanges",(Rows.laid_unicode_utf8_acceptRanges:DataW Unit))∈Rows.capsLettersRow.laid:=List.mem_of_getElem? (i:=3) rfl;obtain⟨g,t,cs,fuel,p,h1,h2,h3,h4⟩:=plain_var h hm rfl;have e1:Tryd.prog.globalNamed "unicode/utf8.acceptRanges"=some 3:=by kernel_rfl
 obtain rfl:=Option.some.inj (e1.symm.trans h1);have e2:(Tryd.prog.globals[3]?).map (·.type)=some 120:=by kernel_rfl
 obtain rfl:=Option.some.inj (e2.symm.trans h2);obtain⟨ty,fz,hheap⟩:=var_heap e1 h3;obtain⟨xs,m1,rfl,hx1,hlen,hn,hel⟩:=DataW.trod_array (n:=16) (e:=119) (by kernel_rfl) h4;have eD:(Rows.laid_unicode_utf8_acceptRanges:DataW Unit)=.agg ((List.range 16).map fun i=>.agg [.lit (.int .u8 (Lib.accLo i)),.lit (.int .u8 (Lib.accHi i))]):=by kernel_rfl
 rw[eD]at hx1;simp only[Prod.mk.injEq,DataW.agg.injEq]at hx1;have hD:=hx1.1;have hsz:cs.size=32:=by
  have hc:Tryd.prog.cellsOf 120=32:=by kernel_rfl
  rw[hc]at hlen;simpa using hlen
 have hc2:Tryd.prog.cellsOf 119=2:=by kernel_rfl
 have both:∀i,i<16→cs[2*i]?=some (.int .u8 (Lib.accLo i))∧cs[2*i+1]?=some (.int .u8 (Lib.accHi i)):=by
  intro i hi;have h1:=hel i hi;rw[hc2]at h1;have h5:((List.range 16).map fun i=>(DataW.agg [.lit (.int .u8 (Lib.accLo i)),.lit (.int .u8 (Lib.accHi i))]:DataW Unit))[i]?=some (.agg [.lit (.int .u8 (Lib.accLo i)),.lit (.int .u8 (Lib.accHi i))]):=by
   rw[List.getElem?_map,List.getElem?_range hi];rfl
  rw[hD,List.getElem?_map]at h5;cases hxi:xs[i]? with
  |none=>rw[hxi]at h5;cases h5
  |some x=>
   rw[hxi]at h5 h1;simp only[Option.map_some,Option.some.injEq]at h5;obtain⟨y0,y1,n,rfl,hl,q0,q1⟩:=trod_struct2 Tryd.underlying119 h1;simp only[DataW.agg.injEq,List.cons.injEq,and_true]at h5;have c5:Tryd.prog.cellsOf 5=1:=by kernel_rfl
   replace q0:DataW.trod (fun _=>()) Tryd.prog W 0 (fun _=>true) false n 5 ((((cs.toList.drop (i*2)).take 2).drop 0).take (Tryd.prog.cellsOf 5))=some y0:=q0;replace q1:DataW.trod (fun _=>()) Tryd.prog W 0 (fun _=>true) false n 5 ((((cs.toList.drop (i*2)).take 2).drop 1).take (Tryd.prog.cellsOf 5))=some y1:=q1;rw[c5]at q0 q1;obtain⟨a,e0,e1,wa⟩:=DataW.trod_int (k:=.u8) (by kernel_rfl) q0;obtain⟨b,e2,e3,wb⟩:=DataW.trod_int (k:=.u8) (by kernel_rfl) q1;subst e1;subst e3;simp only[DataW.lit.injEq,Lit.int.injEq,true_and]at h5;obtain⟨ha,hb⟩:=h5;subst ha;subst hb;have e2':((((cs.toList.drop (i*2)).take 2).drop 0).take 1)[0]?=some (Value.int .u8 (Lib.accLo i)):=by rw[e0];rfl
   have e3':((((cs.toList.drop (i*2)).take 2).drop 1).take 1)[0]?=some (Value.int .u8 (Lib.accHi i)):=by rw[e2];rfl
   simp only[List.getElem?_take,List.getElem?_drop]at e2' e3';have m2:i*2=2*i:=by omega
   constructor
   ·simpa[m2]using e2'
   ·simpa[m2]using e3'
 refine⟨cs,ty,fz,hheap,fun i v hv=>?_,by rw[hsz];kernel_rfl⟩;have hi:i<32:=by
  have hl:accC.length=32:=by kernel_rfl
  rw[←hl];exact(List.getElem?_eq_some_iff.1 hv).1
 rw[Nat.zero_add];rcases(show(∃j,j<16∧i=2*j)∨(∃j,j<16∧i=2*j+1) by
  rcases Nat.mod_two_eq_zero_or_one i with h0|h0
  ·exact .inl ⟨i/2,by omega,by omega⟩
  ·exact .inr ⟨i/2,by omega,by omega⟩)with⟨j,hj,rfl⟩|⟨j,hj,rfl⟩
 ·have:=(pairs_get (f:=fun i=>V.int .u8 (Lib.accLo i)) (g:=fun i=>V.int .u8 (Lib.accHi i)) hj).1;have e:=this.symm.trans hv;cases e;exact⟨_,rfl,(both j hj).1⟩
 ·have:=(pairs_get (f:=fun i=>V.int .u8 (Lib.accLo i)) (g:=fun i=>V.int .u8 (Lib.accHi i)) hj).2;have e:=this.symm.trans hv;cases e;exact⟨_,rfl,(both j hj).2⟩
theorem laid_var2{P:Program}{w:World}{n:String}{d:DataW Unit}:∀{l:List (String×DataW Unit)} {ps:List MemPlace},DataW.LaidVars P w l ps→(n,d)∈l→∃g t cs fuel p,P.globalNamed n=some g∧(P.globals[g]?).map (·.type)=some t∧w.var? P n=some cs∧DataW.trod (fun _=>()) P w 0 (fun _=>true) false fuel t cs.toList=some (d,p)∧∀i,i<cs.size→MemPlace.cell g i∈ps
 |[],_,_,h=>by cases h
 |(n',d')::r,ps,h,hm=>by
  obtain⟨g,t,cs,fuel,p,q,h1,h2,h3,h4,h5,h6⟩:=h;rcases List.mem_cons.1 hm with e|hm
  ·cases e;refine⟨g,t,cs,fuel,p,h1,h2,h3,h4,fun i hi=>?_⟩;rw[h6];refine List.mem_append_left _ (List.mem_append_left _ ?_);exact List.mem_map.2 ⟨i,List.mem_range.2 hi,by simp⟩
  ·obtain⟨g2,t2,cs2,fuel2,p2,k1,k2,k3,k4,k5⟩:=laid_var2 h5 hm;exact⟨g2,t2,cs2,fuel2,p2,k1,k2,k3,k4,fun i hi=>by rw[h6];exact List.mem_append_right _ (k5 i hi)⟩
theorem trod_iface{P:Program}{w:World}{base:Nat}{sp:Nat→Bool}{fuel:Nat}{t:TypeId}{cs:List Value}{enc:TypeId×Value→Unit}{name:String}{d:DataW Unit}{p:List MemPlace}(ht:∃ms,P.underlying t=some (.interface ms))(h:DataW.trod enc P w base sp false fuel t cs=some (.iface name d,p)):
  ∃u v m,cs=[.iface u v]∧P.typeName? 3 u=some name∧DataW.trod enc P w base sp false m u v.cells.toList=some (d,p):=by
 obtain⟨ms,ht⟩:=ht;cases fuel with
 |zero=>simp[DataW.trod]at h
 |succ n=>
  unfold DataW.trod at h;rw[ht]at h;split at h<;>simp_all;rename_i u v hh;cases hn:P.typeName? 3 u with
  |none=>rw[hn]at h;simp at h
  |some nm=>
   rw[hn]at h;simp only[Option.map_eq_some_iff]at h;obtain⟨x,hx,he⟩:=h;simp only[Prod.mk.injEq,DataW.iface.injEq]at he;obtain⟨⟨rfl,rfl⟩,rfl⟩:=he;refine⟨u,v,?_⟩
   first|exact⟨⟨rfl,rfl⟩,hn,n,hx⟩|exact⟨n,⟨rfl,rfl⟩,hn,hx⟩|exact⟨rfl,hn,n,hx⟩|exact⟨n,rfl,hn,hx⟩|exact⟨n,by simp,hn,hx⟩
theorem trod_ptr_of{P:Program}{w:World}{base:Nat}{sp:Nat→Bool}{held:Bool}{fuel:Nat}{t:TypeId}{cs:List Value}{enc:TypeId×Value→Unit}{d:DataW Unit}{p:List MemPlace}(h:DataW.trod enc P w base sp held fuel t cs=some (.ptr d,p)):∃e,P.underlying t=some (.pointer e):=by
 cases fuel with
 |zero=>simp[DataW.trod]at h
 |succ n=>
  unfold DataW.trod at h;cases hu:P.underlying t with
  |none=>rw[hu]at h;simp at h
  |some u=>
   rw[hu]at h;cases u with
   |pointer e=>exact⟨e,rfl⟩
   |_=>
    exfalso;revert h;simp only
    repeat' split
    all_goals (intro h;simp_all [Option.bind_eq_some_iff])
theorem trod_lit_nil{P:Program}{w:World}{base:Nat}{sp:Nat→Bool}{held:Bool}{fuel:Nat}{t:TypeId}{enc:TypeId×Value→Unit}{l:Lit}{p:List MemPlace}(h:DataW.trod enc P w base sp held fuel t []=some (.lit l,p)):False:=by
 cases fuel with
 |zero=>simp[DataW.trod]at h
 |succ n=>
  unfold DataW.trod at h;cases hu:P.underlying t with
  |none=>rw[hu]at h;simp at h
  |some u=>
   rw[hu]at h;revert h;simp only
   repeat' split
   all_goals (intro h;simp_all [Option.bind_eq_some_iff])
theorem mapM_one{α β:Type}{f:α→Option β}:∀{l:List α} {y:β},l.mapM f=some [y]→∃x,f x=some y
 |[],y,h=>by simp at h
 |x::l,y,h=>by
  simp only[List.mapM_cons,Option.bind_eq_bind,Option.bind_eq_some_iff,Option.pure_def,Option.some.injEq,List.cons.injEq]at h;obtain⟨a,ha,b,hb,rfl,rfl⟩:=h;exact⟨x,ha⟩
theorem trod_agg_nil{P:Program}{w:World}{base:Nat}{sp:Nat→Bool}{held:Bool}{fuel:Nat}{t:TypeId}{enc:TypeId×Value→Unit}{l:Lit}{p:List MemPlace}(h:DataW.trod enc P w base sp held fuel t []=some (.agg [.lit l],p)):False:=by
 cases fuel with
 |zero=>simp[DataW.trod]at h
 |succ n=>
  unfold DataW.trod at h;cases hu:P.underlying t with
  |none=>rw[hu]at h;simp at h
  |some u=>
   rw[hu]at h;cases u with
   |struct fs=>
    simp only at h;split at h
    ·simp only[List.drop_nil,List.take_nil,Option.map_eq_some_iff,Prod.mk.injEq,DataW.agg.injEq]at h;obtain⟨xs,hx,h1,_⟩:=h
     match xs,hx,h1 with
     |[(y,q)],hx,h1=>
      simp only[List.map_cons,List.map_nil,List.cons.injEq,and_true]at h1;subst h1;obtain⟨x,hx⟩:=mapM_one hx;exact trod_lit_nil hx
     |[],hx,h1=>simp at h1
     |a::b::r,hx,h1=>simp at h1
    ·cases h
   |array k e=>
    simp only at h;split at h
    ·simp only[List.drop_nil,List.take_nil,Option.map_eq_some_iff,Prod.mk.injEq,DataW.agg.injEq]at h;obtain⟨xs,hx,h1,_⟩:=h
     match xs,hx,h1 with
     |[(y,q)],hx,h1=>
      simp only[List.map_cons,List.map_nil,List.cons.injEq,and_true]at h1;subst h1;obtain⟨x,hx⟩:=mapM_one hx;exact trod_lit_nil hx
     |[],hx,h1=>simp at h1
     |a::b::r,hx,h1=>simp at h1
    ·cases h
   |_=>
    exfalso;revert h;simp only
    repeat' split
    all_goals (intro h;simp_all [Option.bind_eq_some_iff])
set_option maxRecDepth 100000 in
theorem err_cell{W:World}(h:laidMetH Tryd.prog Rows.capsLettersRow.laid W):∃tp b o arr t fz,W.heap[5]?=some (.cells arr t fz)∧arr[0]?=some (.iface tp (.pointer (some ⟨b,o,none⟩))):=by
 have hm:("strconv.ErrRange",(Rows.laid_strconv_ErrRange:DataW Unit))∈Rows.capsLettersRow.laid:=List.mem_of_getElem? (i:=4) rfl;obtain⟨ps,hl,_,hw⟩:=plain_part h;obtain⟨g,t,cs,fuel,p,h1,h2,h3,h4,h5⟩:=laid_var2 hl (List.mem_filter.2 ⟨hm,rfl⟩);have e1:Tryd.prog.globalNamed "strconv.ErrRange"=some 5:=by kernel_rfl
 obtain rfl:=Option.some.inj (e1.symm.trans h1);have e2:(Tryd.prog.globals[5]?).map (·.type)=some 70:=by kernel_rfl
 obtain rfl:=Option.some.inj (e2.symm.trans h2);obtain⟨ty,fz,hheap⟩:=var_heap e1 h3;have eD:∃nm l,(Rows.laid_strconv_ErrRange:DataW Unit)=.iface nm (.ptr (.agg [.lit l])):=⟨_,_,rfl⟩;obtain⟨nm,lt,eD⟩:=eD;rw[eD]at h4;obtain⟨u,v,m,hcs,hname,htr⟩:=trod_iface ⟨_,Tryd.underlying70⟩ h4;obtain⟨e,hue⟩:=trod_ptr_of htr;have hsz:cs.size=1:=by have:=congrArg List.length hcs;simpa using this
 have hcs':cs=#[.iface u v]:=Array.toList_inj.1 hcs;have hc0:W.cell? ⟨5,0,none⟩=some (.iface u v):=by
  subst hcs';rw[cell_of_row W 5 0 _ ty fz hheap];rfl
 have hok:=(hw 5 0 (h5 0 (by omega))).2 _ _ hc0;obtain⟨a,rfl⟩:=okWide_pointer hue hok;have hc1:(Value.pointer a).cells.toList=[.pointer a]:=rfl;rw[hc1]at htr;rcases DataW.trod_pointer hue htr with⟨_,hx⟩|⟨ad,cs',y,n,_,hp,hx,hcells,hy⟩
 ·simp at hx
 ·simp only[List.cons.injEq,Value.pointer.injEq,and_true]at hp;subst hp;simp only[Prod.mk.injEq,DataW.ptr.injEq]at hx;have hsp:ad.spot=none:=by
   unfold World.cells? at hcells;split at hcells
   ·cases hw1:Tryd.prog.cellsOf e with
    |zero=>
     rw[hw1]at hcells;simp at hcells;subst hcells;obtain⟨y1,y2⟩:=y;simp only at hx;rw[←hx.1]at hy;exact absurd hy (fun hy=>trod_agg_nil hy)
    |succ k=>
     rw[hw1,List.range_succ_eq_map,List.mapM_cons]at hcells;have e0:ad.add 0=ad:=by simp[Addr.add]
     rw[e0]at hcells;cases hcc:W.cell? ad with
     |none=>rw[hcc]at hcells;simp at hcells
     |some c=>
      unfold World.cell? at hcc;split at hcc
      ·cases hs:ad.spot with
       |none=>rfl
       |some s=>simp[hs]at hcc
      ·cases hcc
   ·cases hcells
  refine⟨u,ad.block,ad.off,cs,ty,fz,hheap,?_⟩;subst hcs';obtain⟨b,o,s⟩:=ad;simp only at hsp;subst hsp;rfl
theorem laid_gok{W:World}(hΦ:∀k o,Φ.φ k=some o→W.heap[k]?=some o)(h:laidMetH Tryd.prog Rows.capsLettersRow.laid W):GOk W.heap.size W:=by
 have low:∀{g:Nat} {C:List V},Cells W g C→g<W.heap.size:=fun⟨_,_,_,hh,_⟩=>(Array.getElem?_eq_some_iff.1 hh).1;have fin:∀{g:Nat} {C:List V} {b:Bool},Cells W g C→g<W.heap.size∧∃arr t fz,W.heap[g]?=some (.cells arr t fz)∧(∀i v,C[i]?=some v→∃x,real [] v=some x∧arr[0+i]?=some x)∧(b=true→arr.size=0+C.length):=fun hc=>by
  obtain⟨arr,t,fz,h1,h2,h3⟩:=hc;exact⟨(Array.getElem?_eq_some_iff.1 h1).1,arr,t,fz,h1,h2,fun _=>h3⟩
 refine⟨fun k cs hk=>?_,fun k hk=>?_,fun k o hk=>⟨(Array.getElem?_eq_some_iff.1 (hΦ k o hk)).1,hΦ k o hk⟩⟩
 ·by_cases e2:k=2
  ·subst e2;cases hk;exact fin (cells_2 h)
  by_cases e3:k=3
  ·subst e3;cases hk;exact fin (cells_3 h)
  by_cases e6:k=6
  ·subst e6;cases hk;exact fin (cells_6 h)
  exfalso;revert hk;rcases k with _|_|_|_|_|_|_|_|_|_|k<;>intro hk<;>first|(cases hk;done)|omega
 ·by_cases e5:k=5
  ·subst e5;obtain⟨tp,b,o,arr,t,fz,hheap,harr⟩:=err_cell h;exact⟨(Array.getElem?_eq_some_iff.1 hheap).1,arr,t,fz,_,hheap,harr,.inr ⟨_,_,rfl⟩⟩
  exfalso;revert hk;rcases k with _|_|_|_|_|_|_|_|_|_|k<;>intro hk<;>first|(cases hk;done)|omega
end Go.Proofs.YtmcdajbfomngcaaDoor
