/- Parts of this work: what the functions come to. -/
import Derived.Test.YthcoeoibejgaiaaGreatDoorP4
import Derived.Test.YthcoeoibejgaiaaGreatDoorVmc
import Derived.Test.YthcoeoibejgaiaaGreatDoorAwake
import Derived.Test.YthcoeoibejgaiaaGreatDoorRows
import Derived.WalkKit
import Derived.ProofKit
import Derived.OpenShut
import Derived.ShutString
import Derived.SizedLaws
import Derived.Test.YthcoeoibejgaiaaGreatDoorP1
import Derived.LaidMore
import Derived.Stop.Joined
import Derived.LaidHandle
namespace Go.Proofs.YthcoeoibejgaiaaGreatDoor
open Go Go.Vm Go.RowKit
set_option linter.unusedVariables false
theorem u8_wf{n:Int}(h:(Lit.int .u8 n).wf=true):u8B n=true:=by
 have h1:IntKind.u8.min≤n∧n≤IntKind.u8.max:=by simpa[Lit.wf]using h
 have h2:IntKind.u8.min=0:=by decide
 have h3:IntKind.u8.max=255:=by decide
 rw[h2,h3]at h1;unfold u8B;simp only[Bool.and_eq_true,decide_eq_true_eq];omega
theorem tlsDU:∀(f:Nat) (l:List DD),(∀y∈l,OfSh (f+2) tlSh y)→∃rs:List TL,l.length=rs.length∧cr l=tls rs∧rs.all inU=true
 |f,[],_=>⟨[],rfl,rfl,rfl⟩
 |f,d::r,h=>by
  obtain⟨l0,e0,g0⟩:=ofAgg (h d (by simp));obtain⟨d0,l1,e1,a0,g1⟩:=eP g0;obtain⟨d1,l2,e2,a1,g2⟩:=eP g1;obtain⟨d2,l3,e3,a2,g3⟩:=eP g2;obtain⟨d3,l4,e4,a3,g4⟩:=eP g3;have e5:=all2_nil g4;obtain⟨u,hu⟩:=ofInt a0;obtain⟨s,hs⟩:=ofInt a1;obtain⟨m,hm⟩:=ofInt a2;obtain⟨b,hb⟩:=ofStr a3;have q0:=hu.1;have q1:=hs.1;have q2:=hm.1;have q3:=hb.1;subst e0 e1 e2 e3 e4 e5 q0 q1 q2 q3;obtain⟨rs,h1,h2,h3⟩:=tlsDU f r (fun y hy=>h y (by simp[hy]));exact⟨⟨u,s,m,b⟩::rs,by simp[h1],by simp only[cr,gz,h2,tls];rfl,by rw[List.all_cons,h3];unfold inU;rw[u8_wf hs.2,u8_wf hm.2];rfl⟩
end Go.Proofs.YthcoeoibejgaiaaGreatDoor
namespace Go.Proofs.YthcoeoibejgaiaaGreatDoor
open Go.IntKind (u8 u16 u32 u64 i8 i16 i32 i64)
open Go Go.Vm Go.RowKit
set_option linter.unusedVariables false
set_option maxRecDepth 100000
set_option linter.unusedSectionVars false
variable [Φ:Frz]
theorem l1N_ge:∀(l:List (List UInt8)) (n:Nat),n≤l1N n l
 |[],n=>Nat.le_refl _
 |s::r,n=>by
  unfold l1N;split
  ·have:=l1N_ge r (n+10+min 9000 s.length);omega
  ·exact Nat.le_refl _
theorem l2N_ge:∀(l:List TL) (n:Nat),n≤l2N n l
 |[],n=>Nat.le_refl _
 |s::r,n=>by
  unfold l2N;split
  ·have:=l2N_ge r (n+10+min 9000 s.d.length);omega
  ·exact Nat.le_refl _
theorem l1N_all:∀(l:List (List UInt8)) (n:Nat),l1N n l<9000→∀s∈l,s.length<9000
 |[],n,_,s,hs=>by cases hs
 |a::r,n,h,s,hs=>by
  unfold l1N at h;split at h
  ·have h1:=l1N_ge r (n+10+min 9000 a.length);rcases List.mem_cons.1 hs with rfl|hs
   ·omega
   ·exact l1N_all r _ h s hs
  ·omega
theorem oS{l:List (List UInt8)}{r:List TL}(h:oT l r=false):l.all au=true:=by
 unfold oT at h;have h:=of_decide_eq_false h;unfold longN at h;have h2:=l2N_ge r (l1N 0 l);rw[List.all_eq_true];intro s hs;have:=l1N_all l 0 (by omega) s hs;exact decide_eq_true (by omega)
noncomputable def TMA(LOK LB OK:V→V→St→Bool)(ZK:V→V→List UInt8→St→Bool)(AV BV:V→V→List UInt8→Int→St→Bool)(MK:V→St→Bool)(ZM:V→List UInt8→St→Bool)(MV NV:Int→Int→Int→List UInt8→V→List UInt8→Int→St→Bool):Tab:=⟨addP noT 8 awakeF,addS (addS (addS (addS (addS noL 7 (longGV LOK LB)) 11 (anyGV OK AV)) 12 (ranyGV ZK BV)) 9 (matGV MK MV)) 10 (rmatGV ZM NV),aL 9⟩
theorem TMA_ok:TabOk3 Tryz.prog (TMA iV ll yOK zOK yV yV mvOK zmOK mvV mvV):=⟨aN aA awakeF_ok,cG (cG (cG (cG (cG aB longG_ok) anyGV_ok) ranyGV_ok) matGV_ok) rmatGV_ok,ak 9⟩
theorem tma_law(LOK LB OK:V→V→St→Bool)(ZK:V→V→List UInt8→St→Bool)(AV BV:V→V→List UInt8→Int→St→Bool)(MK:V→St→Bool)(ZM:V→List UInt8→St→Bool)(MV NV:Int→Int→Int→List UInt8→V→List UInt8→Int→St→Bool)(x:Value)(n:Nat)(cs:List V)(u s m:Int)(d:List UInt8)(p:Value)(k:Nat)(ds:List V)(h:List UInt8)(now:Int)(R:V→Prop):runW Tryz.prog (TMA LOK LB OK ZK AV BV MK ZM MV NV) 9 10 3 [.lst x n cs,.agg [.int .u8 u,.int .u8 s,.int .u8 m,.str d],.lst p k ds,.str h,.int .i64 now] R=
  (
 bif LOK (.lst p k ds) (.lst x n cs) []then bif LB (.lst p k ds) (.lst x n cs) []then R (.bool true)else bif LOK (.slice 1 0 1 false 0 0) (.slice 2 0 1 false 0
 0) [.row [.int u8 u,.int u8 s,.int u8 m,.str d] 24 4,.row [.str h] 9 1,.row [.int u8 u,.int u8 s,.int
 u8 m,.str (d)] 24 4]then bif LB (.slice 1 0 1 false 0 0) (.slice 2 0 1 false 0 0) [.row [.int u8 u,.int u8 s,.int u8 m,.str
 d] 24 4,.row [.str h] 9 1,.row [.int u8 u,.int u8 s,.int u8 m,.str (d)] 24 4]then R (.bool true)else bif MK (.lst p k ds) []
 &&(u8B s&&u8B m)then bif ZM (.lst p k ds) h []&&(u8B s&&u8B m)then bif MV u s m (d) (.lst p k ds) h now []==NV u s m (d) (.lst p k ds) h now []then bif OK
 (.lst x n cs) (.lst p k ds) []then bif ZK (.lst x n cs) (.lst p k ds) h []then bif AV (.lst x n cs) (.lst p k ds) h now []==BV (.lst x n cs) (.lst p k ds) h
 now []then R (.bool true)else R (.bool false)else False else False else R (.bool false)else False else False else False else False):=by kernel_rfl
theorem tmat_core(x:Value)(l:List TL)(u s m:Int)(d:List UInt8)(p:Value)(e:List (List UInt8))(h:List UInt8)(now:Int)(h1:l.length≤9223372036854775807)(hu:l.all inU=true)(hs:u8B s=true)(hm:u8B m=true)(h2:e.length≤9223372036854775807):
  FnSat Tryz.prog 3 [.lst x l.length (tls l),.agg [.int .u8 u,.int .u8 s,.int .u8 m,.str d],.lst p e.length (strs e),.str h,.int .i64 now] [] (fun v _=>v=.bool true):=by
 refine runW_ok (lim:=9) (n:=10) mixed TMA_ok ?_;refine cast (tma_law iV ll yOK zOK yV yV mvOK zmOK mvV mvV x l.length (tls l) u s m d p e.length (strs e) h now (fun v=>v=.bool true)).symm ?_;have vT:∀st,fe st (.lst x l.length (tls l))=some (true,l):=fun st=>by
  simp only[fe,cH,cN,lw,dX,Nat.beq_refl,Bool.and_true];rw[Nat.mul_comm,Nat.beq_refl]
 have vS:∀st,bJ st (.lst p e.length (strs e))=some (true,e):=fun st=>by
  simp only[bJ,cH,aF,Nat.mul_one,Nat.beq_refl,bZ,ao,Bool.and_self]
 have n1:Nat.ble l.length 9223372036854775807=true:=Nat.ble_eq_true_of_le h1;have n2:Nat.ble e.length 9223372036854775807=true:=Nat.ble_eq_true_of_le h2;have lg1:iV (.lst p e.length (strs e)) (.lst x l.length (tls l)) []=true:=by
  unfold iV;rw[vS,vT];show(true&&(true&&(Nat.ble e.length 9223372036854775807&&Nat.ble l.length 9223372036854775807)))=true;rw[n1,n2];rfl
 have lg2:ll (.lst p e.length (strs e)) (.lst x l.length (tls l)) []=oT e l:=by unfold ll;rw[vS,vT]
 have q1:bJ [Blk.row [V.int u8 u,V.int u8 s,V.int u8 m,V.str d] 24 4,Blk.row [V.str h] 9 1,Blk.row [V.int u8 u,V.int u8 s,V.int u8 m,V.str d] 24 4] (.slice 1 0 1 false 0 0)=some (true,[h]):=by
  simp only[bJ,cH];rfl
 have q2:fe [Blk.row [V.int u8 u,V.int u8 s,V.int u8 m,V.str d] 24 4,Blk.row [V.str h] 9 1,Blk.row [V.int u8 u,V.int u8 s,V.int u8 m,V.str d] 24 4] (.slice 2 0 1 false 0 0)=some (true,[⟨u,s,m,d⟩]):=by
  simp only[fe,cH];rfl
 have lg3:iV (.slice 1 0 1 false 0 0) (.slice 2 0 1 false 0 0) [Blk.row [V.int u8 u,V.int u8 s,V.int u8 m,V.str d] 24 4,Blk.row [V.str h] 9 1,Blk.row [V.int u8 u,V.int u8 s,V.int u8 m,V.str d] 24 4]=true:=by
  unfold iV;rw[q1,q2];rfl
 have lg4:ll (.slice 1 0 1 false 0 0) (.slice 2 0 1 false 0 0) [Blk.row [V.int u8 u,V.int u8 s,V.int u8 m,V.str d] 24 4,Blk.row [V.str h] 9 1,Blk.row [V.int u8 u,V.int u8 s,V.int u8 m,V.str d] 24 4]=oT [h] [⟨u,s,m,d⟩]:=by unfold ll;rw[q1,q2]
 refine aa lg1 ?_;rw[lg2];refine ab (fun _=>rfl) (fun hlong=>?_);have he:=oS hlong;refine aa lg3 ?_;rw[lg4];refine ab (fun _=>rfl) (fun hl2=>?_);have hh:au h=true:=by have:=oS hl2;rw[List.all_cons,Bool.and_eq_true]at this;exact this.1
 have us:(u8B s&&u8B m)=true:=by rw[hs,hm];rfl
 have k1:mvOK (.lst p e.length (strs e)) []=true:=by unfold mvOK;rw[vS];exact n2
 have k2:zmOK (.lst p e.length (strs e)) h []=true:=by
  unfold zmOK;rw[vS];show(true&&(Nat.ble e.length 9223372036854775807&&(e.all au&&au h)))=true;rw[n2,he,hh];rfl
 have k3:yOK (.lst x l.length (tls l)) (.lst p e.length (strs e)) []=true:=by
  unfold yOK;rw[vS,vT];show(true&&(true&&(l.all inU&&(Nat.ble l.length 9223372036854775807&&Nat.ble e.length 9223372036854775807))))=true;rw[hu,n1,n2];rfl
 have k4:zOK (.lst x l.length (tls l)) (.lst p e.length (strs e)) h []=true:=by
  unfold zOK;rw[vS,vT];show(true&&(true&&((l.all inU&&(e.all au&&au h))&&(Nat.ble l.length 9223372036854775807&&Nat.ble e.length 9223372036854775807))))=true;rw[hu,he,hh,n1,n2];rfl
 refine aa (by rw[k1,us];rfl) (aa (by rw[k2,us];rfl) ?_);rw[beq_self_eq_true,cond_true];refine aa k3 (aa k4 ?_);rw[beq_self_eq_true];exact rfl
theorem tmat_close(x:Value)(l:List TL)(u s m:Int)(d:List UInt8)(p:Value)(e:List (List UInt8))(h:List UInt8)(now:Int)(h1:l.length≤9223372036854775807)(hu:l.all inU=true)(hs:(Lit.int .u8 s).wf=true)(hm:(Lit.int .u8 m).wf=true)(h2:e.length≤9223372036854775807):
  FnSat Tryz.prog 3 [lstT x l,.agg [.int .u8 u,.int .u8 s,.int .u8 m,.str d],lstS p e,.str h,.int .i64 now] [] (fun v _=>v=.bool true):=
 tmat_core x l u s m d p e h now h1 hu (u8_wf hs) (u8_wf hm) h2
end Go.Proofs.YthcoeoibejgaiaaGreatDoor
namespace Go.Proofs.YthcoeoibejgaiaaGreatDoor
open Go Go.Vm Go.RowKit
open Go.ChangeShapes Go.WideShapes Go.ChangeAt
set_option linter.unusedVariables false
set_option linter.unusedSectionVars false
set_option maxRecDepth 100000
def tlsSh:Sh:=.lst tlSh
theorem tlsSh_ok:shOk Tryz.prog 9 tlsSh 22=true:=by kernel_rfl
def IsTls(w:World)(v:Value):Prop:=∃xl l,@real gl (Frz.of w) [] (lstT xl l)=some v∧l.length≤maxLen∧l.all inU=true
theorem open_Tls{H:Type}{enc:TypeId×Value→H}{W:World}{b0:Nat}{r:Reach}{v:Value}{d:DataW H}{ps:List MemPlace}
  (hval:Value.okWide Tryz.prog W r b0 22 v)(hd:DataW.Trod enc Tryz.prog W 0 (fun _=>true) true 22 v d ps):IsTls W v:=by
 obtain⟨sa,sl,sc,rfl⟩:=okWide_slice Tryz.underlying22 hval;obtain⟨fuel,hf⟩:=hd;obtain⟨dd,h1,h2⟩:=@le gl _ _ _ _ _ _ _ 9 tlsSh 22 fuel _ _ tlsSh_ok hf;obtain⟨xl,ds_l,q_l,w_l,y_l⟩:=ofLst h1;subst q_l;obtain⟨l,n_l,m_l,u_l⟩:=tlsDU _ ds_l y_l;simp only[gz,cr,m_l,n_l,List.append_nil,List.singleton_append,List.cons_append,List.nil_append]at h2;have h3:=@fj gl (Frz.of W) [] _ _ h2;refine⟨xl,l,?_,by rw[←n_l];exact w_l,u_l⟩;simp only[ai]at h3;split at h3
 ·rename_i q1 q2 q3 q4;obtain⟨e1,_⟩:=List.cons.inj (Option.some.inj h3);subst e1;exact q3
 ·cases h3
def tlSh:Sh:=.agg [.int .u8,.int .u8,.int .u8,.str]
theorem tlSh_ok:shOk Tryz.prog 9 tlSh 24=true:=by kernel_rfl
def IsTl(w:World)(v:Value):Prop:=∃u s m d,@real gl (Frz.of w) [] (.agg [.int .u8 u,.int .u8 s,.int .u8 m,.str d])=some v∧(Lit.int .u8 s).wf=true∧(Lit.int .u8 m).wf=true
theorem open_Tl{H:Type}{enc:TypeId×Value→H}{W:World}{b0:Nat}{r:Reach}{v:Value}{d:DataW H}{ps:List MemPlace}
  (hval:Value.okWide Tryz.prog W r b0 24 v)(hd:DataW.Trod enc Tryz.prog W 0 (fun _=>true) true 24 v d ps):IsTl W v:=by
 obtain⟨cs,rfl,_⟩:=okWide_struct Tryz.underlying24 hval;obtain⟨fuel,hf⟩:=hd;obtain⟨dd,h1,h2⟩:=@le gl _ _ _ _ _ _ _ 9 tlSh 24 fuel _ _ tlSh_ok hf;obtain⟨l0_0,e0,g0_0⟩:=ofAgg h1;obtain⟨d0_0,l0_1,e0_0,a0_0,g0_1⟩:=eP g0_0;obtain⟨d0_1,l0_2,e0_1,a0_1,g0_2⟩:=eP g0_1;obtain⟨d0_2,l0_3,e0_2,a0_2,g0_3⟩:=eP g0_2;obtain⟨d0_3,l0_4,e0_3,a0_3,g0_4⟩:=eP g0_3;have z0:=all2_nil g0_4;subst e0 e0_0 e0_1 e0_2 e0_3 z0;obtain⟨u,q_u,w_u⟩:=ofInt a0_0;subst q_u;obtain⟨s,q_s,w_s⟩:=ofInt a0_1;subst q_s;obtain⟨m,q_m,w_m⟩:=ofInt a0_2;subst q_m;obtain⟨d,q_d,w_d⟩:=ofStr a0_3;subst q_d;simp only[gz,cr,List.append_nil,List.singleton_append,List.cons_append,List.nil_append]at h2;have h3:=@fj gl (Frz.of W) [] _ _ h2;refine⟨u,s,m,d,?_,w_s,w_m⟩;have h4:=@Go.Vm.real_agg_mk gl (Frz.of W) [] _ _ h3;rw[show(Value.agg cs).cells=cs from rfl,Array.toArray_toList]at h4;exact h4
def strsSh:Sh:=.lst .str
theorem strsSh_ok:shOk Tryz.prog 9 strsSh 25=true:=by kernel_rfl
def IsStrs(w:World)(v:Value):Prop:=∃xan an,@real gl (Frz.of w) [] (lstS xan an)=some v∧an.length≤maxLen
theorem open_Strs{H:Type}{enc:TypeId×Value→H}{W:World}{b0:Nat}{r:Reach}{v:Value}{d:DataW H}{ps:List MemPlace}
  (hval:Value.okWide Tryz.prog W r b0 25 v)(hd:DataW.Trod enc Tryz.prog W 0 (fun _=>true) true 25 v d ps):IsStrs W v:=by
 obtain⟨sa,sl,sc,rfl⟩:=okWide_slice Tryz.underlying25 hval;obtain⟨fuel,hf⟩:=hd;obtain⟨dd,h1,h2⟩:=@le gl _ _ _ _ _ _ _ 9 strsSh 25 fuel _ _ strsSh_ok hf;obtain⟨xan,ds_an,q_an,w_an,y_an⟩:=ofLst h1;subst q_an;obtain⟨an,c_an,m_an⟩:=strsD _ ds_an y_an;have n_an:ds_an.length=an.length:=by rw[c_an,List.length_map]
 simp only[gz,cr,m_an,n_an,List.append_nil,List.singleton_append,List.cons_append,List.nil_append]at h2;have h3:=@fj gl (Frz.of W) [] _ _ h2;refine⟨xan,an,?_,by rw[←n_an];exact w_an⟩;simp only[ai]at h3;split at h3
 ·rename_i q1 q2 q3 q4;obtain⟨e1,_⟩:=List.cons.inj (Option.some.inj h3);subst e1;exact q3
 ·cases h3
theorem qt:maxLen=9223372036854775807:=by decide
theorem bytes_str{w:World}(s:ByteArray):@real gl (Frz.of w) [] (.str s.data.toList)=some (.string s):=by simp[real]
theorem lO(v0:Value)(v1:Value)(v2:Value)(a3:ByteArray)(a4:Int)(w:World)(x0:IsTls w v0)(x1:IsTl w v1)(x2:IsStrs w v2)(w3:a3.size≤maxLen)(w4:(Lit.int .i64 a4).wf=true)(hg:@GOk gl (Frz.of w) w.heap.size w):
  Calls Tryz.prog 3 #[v0,v1,v2,.string a3,.int .i64 a4] w (fun e w'=>e=.returned (.bool true)∧Below w.heap.size w w'):=by
 obtain⟨xl_0,l_0,re0,hy_l_0,hyu_l_0⟩:=x0;obtain⟨u_1,s_1,m_1,d_1,re1,hy_s_1,hy_m_1⟩:=x1;obtain⟨xan_2,an_2,re2,hy_an_2⟩:=x2;refine @frz_law gl Tryz.prog 3 [lstT xl_0 l_0,.agg [.int .u8 u_1,.int .u8 s_1,.int .u8 m_1,.str d_1],lstS xan_2 an_2,.str a3.data.toList,.int .i64 a4] [v0,v1,v2,.string a3,.int .i64 a4] w (@tmat_close (Frz.of w) xl_0 l_0 u_1 s_1 m_1 d_1 xan_2 an_2 a3.data.toList a4 (by rw[qt]at hy_l_0;exact hy_l_0) hyu_l_0 hy_s_1 hy_m_1 (by rw[qt]at hy_an_2;exact hy_an_2)) ?_ hg;simp only[ai,bytes_str,re0,re1,re2]
 try rfl
end Go.Proofs.YthcoeoibejgaiaaGreatDoor
namespace Go.Proofs.YthcoeoibejgaiaaGreatDoor
open Go Go.Vm Go.RowKit
open Go.ChangeShapes Go.WideShapes Go.ChangeAt Go.WideMaps Go.WideElems
set_option linter.unusedVariables false
set_option linter.unusedSectionVars false
variable [Φ:Frz]
def isFuncT:Option TypeDesc→Bool
 |some (.func _ _ _)=>true
 |_=>false
theorem func_of{o:Option TypeDesc}(h:isFuncT o=true):∃ps rs va,o=some (.func ps rs va):=by
 unfold isFuncT at h;split at h
 ·rename_i ps rs va;exact⟨ps,rs,va,rfl⟩
 ·cases h
def partsD:DataW Unit→List (DataW Unit)
 |.agg l=>l
 |_=>[]
def ofD:DataW Unit→V
 |.lit (.int k n)=>.int k n
 |_=>.bool false
def inD:DataW Unit→DataW Unit
 |.iface _ d=>d
 |d=>d
theorem var_heap{P:Program}{w:World}{n:String}{g:Nat}{cs:Array Value}(hg:P.globalNamed n=some g)(h:w.var? P n=some cs):∃t fz,w.heap[g]?=some (.cells cs t fz):=by
 simp only[World.var?,hg,Option.bind_some]at h;split at h
 ·rename_i c t fz hb;cases h;exact⟨t,fz,hb⟩
 ·cases h
def ng(W:World)(g:Nat)(C:List V):Prop:=∃arr t fz,W.heap[g]?=some (.cells arr t fz)∧∀i v,C[i]?=some v→∃x,real [] v=some x∧arr[0+i]?=some x
theorem qI{W:World}{n:String}{g t0 t e N f0:Nat}{k:IntKind}{C:List V}{d:DataW Unit}{cs0:Array Value}{p0:List MemPlace}{sp:Nat→Bool}{held:Bool}{enc:TypeId×Value→Unit}(hg:Tryz.prog.globalNamed n=some g)(hu:Tryz.prog.underlying t=some (.array N e))(hk:Tryz.prog.underlying e=some (.int k))(hw:Tryz.prog.cellsOf e=1)
  (hd:d=.agg (partsD d))(hC:C=(partsD d).map ofD)(ht0:t0=t)(hv0:W.var? Tryz.prog n=some cs0)(hd0:DataW.trod enc Tryz.prog W 0 sp held f0 t0 cs0.toList=some (d,p0)):ng W g C:=by
 subst ht0;obtain⟨ty,fz,hheap⟩:=var_heap hg hv0;refine⟨cs0,ty,fz,hheap,fun i v hv=>?_⟩;obtain⟨xs,m1,rfl,hx1,hlen,hn,hel⟩:=DataW.trod_array hu hd0;rw[hd]at hx1;simp only[Prod.mk.injEq,DataW.agg.injEq]at hx1;have hD:=hx1.1;rw[hC,hD,List.getElem?_map,List.getElem?_map]at hv;cases hxi:xs[i]? with
 |none=>rw[hxi]at hv;cases hv
 |some x=>
  rw[hxi]at hv;simp only[Option.map_some,Option.some.injEq]at hv;have hi:i<N:=by rw[←hn];exact(List.getElem?_eq_some_iff.1 hxi).1
  have h1:=hel i hi;rw[hxi,hw,Nat.mul_one]at h1;obtain⟨a,e0,e1,wa⟩:=DataW.trod_int hk h1;subst e1;simp only[ofD]at hv;subst hv;refine⟨.int k a,rfl,?_⟩;rw[Nat.zero_add];have e2:((cs0.toList.drop i).take 1)[0]?=some (Value.int k a):=by rw[e0];rfl
  rw[List.getElem?_take,if_pos (by omega),List.getElem?_drop,Nat.add_zero]at e2;simpa using e2
theorem pS{W:World}{n:String}{g:Nat}{t e:TypeId}{d:DataW Unit}{b0 b1:UInt8}{r0 r1:List UInt8}{f0 f1:FuncId}(hg:Tryz.prog.globalNamed n=some g)(ht:(Tryz.prog.globals[g]?).map (·.type)=some t)
  (hu:Tryz.prog.underlying t=some (.array 2 e))(hf:∃ps rs va,Tryz.prog.underlying e=some (.func ps rs va))(hw:Tryz.prog.cellsOf e=1)(hc:Tryz.prog.cellsOf t=2)(hd:d.funcsOut=.agg [.held (b0::r0),.held (b1::r1)])
  (h0:((List.range Tryz.prog.funcs.size).filter fun f=>(Tryz.prog.funcs[f]?).any (·.name.toUTF8.data.toList==b0::r0))=[f0])
  (h1:((List.range Tryz.prog.funcs.size).filter fun f=>(Tryz.prog.funcs[f]?).any (·.name.toUTF8.data.toList==b1::r1))=[f1])
  (h:funcsAt Tryz.prog W n d):ng W g [.func (.func f0) [] [],.func (.func f1) [] []]:=by
 obtain⟨ps,rs,va,hfu⟩:=hf;obtain⟨g',t',cs,fuel,p,hg',ht',hv,htr⟩:=h;obtain rfl:=Option.some.inj (hg.symm.trans hg');obtain rfl:=Option.some.inj (ht.symm.trans ht');obtain⟨ty,fz,hheap⟩:=var_heap hg hv;obtain⟨xs,m1,rfl,hx1,hlen,hn,hel⟩:=DataW.trod_array hu htr;rw[hd]at hx1;simp only[Prod.mk.injEq,DataW.agg.injEq]at hx1;have hD:=hx1.1;have one:∀(i:Nat) (b:UInt8) (r:List UInt8) (f:FuncId),i<2→([DataW.held (b0::r0),.held (b1::r1)]:List (DataW (List UInt8)))[i]?=some (.held (b::r))→
   ((List.range Tryz.prog.funcs.size).filter fun f=>(Tryz.prog.funcs[f]?).any (·.name.toUTF8.data.toList==b::r))=[f]→cs[0+i]?=some (.func (.func f) #[] #[]):=by
  intro i b r f hi hb hone;rw[hD,List.getElem?_map]at hb;cases hxi:xs[i]? with
  |none=>rw[hxi]at hb;cases hb
  |some x=>
   rw[hxi]at hb;simp only[Option.map_some,Option.some.injEq]at hb;have h2:=hel i hi;rw[hxi,hw,Nat.mul_one]at h2;have hl:∃v,(cs.toList.drop i).take 1=[v]:=by
    have hcs:cs.toList.length=2:=by
     have:=hlen;rw[hc]at this;simpa using this
    cases hq:cs.toList.drop i with
    |nil=>have:=congrArg List.length hq;simp at this;simp at hcs;omega
    |cons v q=>exact⟨v,rfl⟩
   obtain⟨v,hvv⟩:=hl;rw[hvv]at h2;obtain⟨y,q⟩:=x;simp only at hb;subst hb;have hvf:=func_of_trod hfu hone h2;have e2:((cs.toList.drop i).take 1)[0]?=some v:=by rw[hvv];rfl
   rw[List.getElem?_take,if_pos (by omega),List.getElem?_drop,Nat.add_zero]at e2;rw[Nat.zero_add,←hvf];simpa using e2
 refine⟨cs,ty,fz,hheap,fun i v hv=>?_⟩
 match i,hv with
 |0,hv=>
  simp only[List.getElem?_cons_zero,Option.some.injEq]at hv;subst hv;exact⟨_,rfl,one 0 b0 r0 f0 (by omega) rfl h0⟩
 |1,hv=>
  simp only[List.getElem?_cons_succ,List.getElem?_cons_zero,Option.some.injEq]at hv;subst hv;exact⟨_,rfl,one 1 b1 r1 f1 (by omega) rfl h1⟩
 |i+2,hv=>simp at hv
theorem plain_part{P:Program}{l:List (String×DataW Unit)}{w:World}(h:laidMetH P l w):laidMet P (l.filter fun x=>x.2.handleName?.isNone) w:=by
 unfold laidMetH at h;generalize hfl:(l.filter fun x=>x.2.handleName?.isSome)=fl at h;cases fl with
 |nil=>
  have e:(l.filter fun x=>x.2.handleName?.isNone)=l:=by
   rw[List.filter_eq_self];intro x hx;have:=(List.filter_eq_nil_iff.1 hfl) x hx;cases hn:x.2.handleName? with
   |none=>rfl
   |some s=>rw[hn]at this;exact absurd rfl this
  rw[e];exact h
 |cons a b=>exact h.1
theorem laid_var{P:Program}{w:World}{n:String}{d:DataW Unit}:∀{l:List (String×DataW Unit)} {ps:List MemPlace},DataW.LaidVars P w l ps→(n,d)∈l→∃g t cs fuel p,P.globalNamed n=some g∧(P.globals[g]?).map (·.type)=some t∧w.var? P n=some cs∧DataW.trod (fun _=>()) P w 0 (fun _=>true) false fuel t cs.toList=some (d,p)
 |[],_,_,h=>by cases h
 |(n',d')::r,ps,h,hm=>by
  obtain⟨g,t,cs,fuel,p,q,h1,h2,h3,h4,h5,_⟩:=h;rcases List.mem_cons.1 hm with e|hm
  ·cases e;exact⟨g,t,cs,fuel,p,h1,h2,h3,h4⟩
  ·exact laid_var h5 hm
theorem qh{P:Program}{l:List (String×DataW Unit)}{w:World}(h:laidMetH P l w){n:String}{d:DataW Unit}(hm:(n,d)∈l)(hn:d.handleName?.isNone=true):∃g t cs fuel p,P.globalNamed n=some g∧(P.globals[g]?).map (·.type)=some t∧w.var? P n=some cs∧DataW.trod (fun _=>()) P w 0 (fun _=>true) false fuel t cs.toList=some (d,p):=by
 obtain⟨ps,hl,_,_⟩:=plain_part h;exact laid_var hl (List.mem_filter.2 ⟨hm,hn⟩)
theorem own:ownKnob Tryz.prog.godebug=none:=by kernel_rfl
theorem cells_8{W:World}(h:laidMetH Tryz.prog Rows.tlsaMatchesRow.laid W):ng W 8 powC:=by
 have hm:("internal/strconv.uint64pow10",(Rows.laid_internal_strconv_uint64pow10:DataW Unit))∈Rows.tlsaMatchesRow.laid:=List.mem_of_getElem? (i:=2) rfl;obtain⟨g,t,cs,fuel,p,h1,h2,h3,h4⟩:=qh h hm rfl;have e1:Tryz.prog.globalNamed "internal/strconv.uint64pow10"=some 8:=by kernel_rfl
 obtain rfl:=Option.some.inj (e1.symm.trans h1);have e2:(Tryz.prog.globals[8]?).map (·.type)=some 212:=by kernel_rfl
 exact qI (n:= "internal/strconv.uint64pow10") (t:=212) (e:=122) (N:=20) (k:=.u64) e1 (by kernel_rfl) (by kernel_rfl) (by kernel_rfl) rfl (by kernel_rfl) (Option.some.inj (e2.symm.trans h2)).symm h3 h4
theorem cells_2{W:World}(h:laidMetH Tryz.prog Rows.tlsaMatchesRow.laid W):ng W 2 keyC:=by
 have hm:("mailroom/code.key",(Rows.laid_mailroom_code_key:DataW Unit))∈Rows.tlsaMatchesRow.laid:=List.mem_of_getElem? (i:=3) rfl;obtain⟨g,t,cs,fuel,p,h1,h2,h3,h4⟩:=qh h hm rfl;have e1:Tryz.prog.globalNamed "mailroom/code.key"=some 2:=by kernel_rfl
 obtain rfl:=Option.some.inj (e1.symm.trans h1);have e2:(Tryz.prog.globals[2]?).map (·.type)=some 127:=by kernel_rfl
 exact qI (n:= "mailroom/code.key") (t:=127) (e:=124) (N:=64) (k:=.u32) e1 (by kernel_rfl) (by kernel_rfl) (by kernel_rfl) rfl (by kernel_rfl) (Option.some.inj (e2.symm.trans h2)).symm h3 h4
theorem cells_1{W:World}(h:laidMetH Tryz.prog Rows.tlsaMatchesRow.laid W):ng W 1 takesC:=by
 have hm:("mailroom/tlsa.takes",DataW.iface "func table" (inD (Rows.laid_mailroom_tlsa_takes:DataW Unit)))∈Rows.tlsaMatchesRow.laid:=List.mem_of_getElem? (i:=4) rfl;exact pS (t:=100) (e:=99) (b0:=109) (r0:=[97,105,108,114,111,111,109,47,116,108,115,97,46,116,97,107,101,115,36,49]) (b1:=109) (r1:=[97,105,108,114,111,111,109,47,116,108,115,97,46,116,97,107,101,115,36,50]) (f0:=221) (f1:=222) (by kernel_rfl) (by kernel_rfl) (by kernel_rfl) (func_of (by kernel_rfl)) (by kernel_rfl) (by kernel_rfl) (by kernel_rfl) (by kernel_rfl) (by kernel_rfl) (h.funcs hm)
theorem cells_0{W:World}(h:laidMetH Tryz.prog Rows.tlsaMatchesRow.laid W):ng W 0 makesC:=by
 have hm:("mailroom/tlsa.makes",DataW.iface "func table" (inD (Rows.laid_mailroom_tlsa_makes:DataW Unit)))∈Rows.tlsaMatchesRow.laid:=List.mem_of_getElem? (i:=5) rfl;exact pS (t:=98) (e:=46) (b0:=109) (r0:=[97,105,108,114,111,111,109,47,116,108,115,97,46,109,97,107,101,115,36,49]) (b1:=109) (r1:=[97,105,108,114,111,111,109,47,99,111,100,101,46,83,117,109]) (f0:=220) (f1:=62) (by kernel_rfl) (by kernel_rfl) (by kernel_rfl) (func_of (by kernel_rfl)) (by kernel_rfl) (by kernel_rfl) (by kernel_rfl) (by kernel_rfl) (by kernel_rfl) (h.funcs hm)
theorem laid_gok{W:World}(hΦ:∀k o,Φ.φ k=some o→W.heap[k]?=some o)(h:laidMetH Tryz.prog Rows.tlsaMatchesRow.laid W):GOk W.heap.size W:=by
 have low:∀{g:Nat} {C:List V},ng W g C→g<W.heap.size:=fun⟨_,_,_,hh,_⟩=>(Array.getElem?_eq_some_iff.1 hh).1;refine⟨fun k cs hk=>?_,fun k hk=>?_,fun k o hk=>⟨(Array.getElem?_eq_some_iff.1 (hΦ k o hk)).1,hΦ k o hk⟩⟩
 ·have fin:∀{g:Nat} {C:List V},ng W g C→g<W.heap.size∧∃arr t fz,W.heap[g]?=some (.cells arr t fz)∧(∀i v,C[i]?=some v→∃x,real [] v=some x∧arr[0+i]?=some x):=fun hc=>⟨low hc,hc⟩
  match k,hk with
  |0,hk=>cases hk;obtain⟨a,arr,t,fz,h1,h2⟩:=fin (cells_0 h);exact⟨a,arr,t,fz,h1,h2,fun hf=>by cases hf⟩
  |1,hk=>cases hk;obtain⟨a,arr,t,fz,h1,h2⟩:=fin (cells_1 h);exact⟨a,arr,t,fz,h1,h2,fun hf=>by cases hf⟩
  |2,hk=>cases hk;obtain⟨a,arr,t,fz,h1,h2⟩:=fin (cells_2 h);exact⟨a,arr,t,fz,h1,h2,fun hf=>by cases hf⟩
  |8,hk=>cases hk;obtain⟨a,arr,t,fz,h1,h2⟩:=fin (cells_8 h);exact⟨a,arr,t,fz,h1,h2,fun hf=>by cases hf⟩
  |3,hk=>cases hk
  |4,hk=>cases hk
  |5,hk=>cases hk
  |6,hk=>cases hk
  |7,hk=>cases hk
  |k+9,hk=>cases hk
 ·cases hk
end Go.Proofs.YthcoeoibejgaiaaGreatDoor
