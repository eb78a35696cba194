/- Parts of this work: what the functions come to. -/
import Derived.Test.YtebkeppoicllmaaGreatDoorP4
import Derived.Test.YtebkeppoicllmaaGreatDoorAwake
import Derived.Test.YtebkeppoicllmaaGreatDoorP3
import Derived.Test.YtebkeppoicllmaaGreatDoorVmc
import Derived.Test.YtebkeppoicllmaaGreatDoorRows
import Derived.WalkKit
import Derived.ProofKit
import Derived.OpenShut
import Derived.ShutString
import Derived.SizedLaws
import Derived.Test.YtebkeppoicllmaaGreatDoorP1
import Derived.LaidMore
import Derived.Stop.Joined
import Derived.LaidHandle
noncomputable section
set_option linter.unusedVariables false
set_option linter.unusedSectionVars false
set_option maxRecDepth 100000
namespace Go.Proofs.YtebkeppoicllmaaGreatDoor
open Go Go.Vm Go.RowKit
variable [Φ:Frz]
def NJT(LOK LB:V→V→St→Bool)(OK:V→V→V→St→Bool)(AV:List UInt8→V→Bool→Bool→Bool→Int→V→Int→V→St→Bool)(EV:List UInt8→V→Bool→Bool→Int→Bool→Bool→Int→V→Int→V→St→Int)(KV:List UInt8→Nat→List V→Nat→List V→Nat→List V→Bool)(BV:List UInt8→List V→Bool→Bool→Bool→Int→List V→Int→List V→Bool)(RV:List UInt8→List V→Bool→Bool→Int→Bool→Bool→Int→List V→Int→List V→Int):Tab:=
 ⟨addT (addT (addP noT 17 awakeF) 21 (radT KV BV)) 23 (rreT KV RV),addS (addS (addS noL 16 (longGV LOK LB)) 20 (adGV OK AV)) 22 (reGV OK EV),aT 9⟩
theorem NJT_ok:TabOk3 Qq (NJT lK p9 adOK adV reV rnK radV rreV):=⟨aR (aR (bg aJ awakeF_ok) radT_ok) rreT_ok,bP (bP (bP aK longG_ok) adGV_ok) reGV_ok,au 9⟩
theorem jud_law(LOK LB:V→V→St→Bool)(OK:V→V→V→St→Bool)(AV:List UInt8→V→Bool→Bool→Bool→Int→V→Int→V→St→Bool)(EV:List UInt8→V→Bool→Bool→Int→Bool→Bool→Int→V→Int→V→St→Int)(KV:List UInt8→Nat→List V→Nat→List V→Nat→List V→Bool)(BV:List UInt8→List V→Bool→Bool→Bool→Int→List V→Int→List V→Bool)(RV:List UInt8→List V→Bool→Bool→Int→Bool→Bool→Int→List V→Int→List V→Int)(h:List UInt8)(x:Value)(n:Nat)(cs:List V)(ch se:Bool)(ty:Int)(be ok:Bool)(ver:Int)(p:Value)(k:Nat)(ds:List V)(now:Int)(y:Value)(m:Nat)(es:List V)(R:V→Prop):runW Qq (NJT LOK LB OK AV EV KV BV RV) 9 10 4 [.agg [.str h,.lst x n cs,.bool ch,.bool se,.int .u8 ty],.bool be,.agg [.bool ok,.int .u16 ver,.lst p k ds],.int .i64 now,.lst y m es] R=
  (
 bif LOK (.slice 2 0 1 false 0 0) (.lst x n cs) [.row [.str h,.lst x n cs,.bool ch,.bool se,.int IntKind.u8 ty] 38 5,.row [.bool ok,.int IntKind.u16
 ver,.lst p k ds] 41 3,.row [.str h] 9 1]then bif LB (.slice 2 0 1 false 0 0) (.lst x n cs) [.row [.str h,.lst x n cs,.bool ch,.bool se,.int
 IntKind.u8 ty] 38 5,.row [.bool ok,.int IntKind.u16 ver,.lst p k ds] 41 3,.row [.str h] 9 1]then R (.bool true)else bif LOK (.lst p k ds) .nilSlice []
 then bif LB (.lst p k ds) .nilSlice []then R (.bool true)else bif LOK (.lst y m es) .nilSlice []then bif LB (.lst y m es) .nilSlice []then R (.bool true)else
 bif ty==1 then bif (↑n:Int)==0 then bif ty !=1 then bif OK (.lst x n cs) (.lst p k ds) (.lst y m es) []then bif KV h n cs k ds m es then bif AV h (.lst x n
 cs) ch se ok ver (.lst p k ds) now (.lst y m es) []==BV h cs ch se ok ver ds now es then bif OK (.lst x n cs) (.lst p k ds) (.lst y m es) []then bif KV h n cs k
 ds m es then bif EV h (.lst x n cs) ch se ty be ok ver (.lst p k ds) now (.lst y m es) []==RV h cs ch se ty be ok ver ds now es then R (.bool false)else R (.bool
 false)else False else False else R (.bool false)else False else False else bif decide ((↑n:Int)>0)then bif OK (.lst x n cs) (.lst p k ds) (.lst y m es) []then
 bif KV h n cs k ds m es then bif AV h (.lst x n cs) ch se ok ver (.lst p k ds) now (.lst y m es) []==BV h cs ch se ok ver ds now es then bif OK (.lst x n cs) (.lst
 p k ds) (.lst y m es) []then bif KV h n cs k ds m es then bif EV h (.lst x n cs) ch se ty be ok ver (.lst p k ds) now (.lst y m es) []==RV h cs ch se ty be ok ver
 ds now es then R (.bool false)else R (.bool false)else False else False else R (.bool false)else False else False else bif OK (.lst x n cs) (.lst p k ds) (.lst y
 m es) []then bif KV h n cs k ds m es then bif AV h (.lst x n cs) ch se ok ver (.lst p k ds) now (.lst y m es) []==BV h cs ch se ok ver ds now es then bif OK (.lst
 x n cs) (.lst p k ds) (.lst y m es) []then bif KV h n cs k ds m es then bif EV h (.lst x n cs) ch se ty be ok ver (.lst p k ds) now (.lst y m es) []==RV h cs ch
 se ty be ok ver ds now es then R (.bool true)else R (.bool false)else False else False else R (.bool false)else False else False else bif ty !=1 then bif OK (.lst
 x n cs) (.lst p k ds) (.lst y m es) []then bif KV h n cs k ds m es then bif AV h (.lst x n cs) ch se ok ver (.lst p k ds) now (.lst y m es) []==BV h cs ch se ok
 ver ds now es then bif OK (.lst x n cs) (.lst p k ds) (.lst y m es) []then bif KV h n cs k ds m es then bif EV h (.lst x n cs) ch se ty be ok ver (.lst p k ds) now
 (.lst y m es) []==RV h cs ch se ty be ok ver ds now es then R (.bool true)else R (.bool false)else False else False else R (.bool false)else False else False
 else bif decide ((↑n:Int)>0)then bif OK (.lst x n cs) (.lst p k ds) (.lst y m es) []then bif KV h n cs k ds m es then bif AV h (.lst x n cs) ch se ok ver (.lst
 p k ds) now (.lst y m es) []==BV h cs ch se ok ver ds now es then bif OK (.lst x n cs) (.lst p k ds) (.lst y m es) []then bif KV h n cs k ds m es then bif EV h
 (.lst x n cs) ch se ty be ok ver (.lst p k ds) now (.lst y m es) []==RV h cs ch se ty be ok ver ds now es then R (.bool true)else R (.bool false)else False else
 False else R (.bool false)else False else False else bif OK (.lst x n cs) (.lst p k ds) (.lst y m es) []then bif KV h n cs k ds m es then bif AV h (.lst x n cs) ch
 se ok ver (.lst p k ds) now (.lst y m es) []==BV h cs ch se ok ver ds now es then bif OK (.lst x n cs) (.lst p k ds) (.lst y m es) []then bif KV h n cs k ds m es
 then bif EV h (.lst x n cs) ch se ty be ok ver (.lst p k ds) now (.lst y m es) []==RV h cs ch se ty be ok ver ds now es then R (.bool false)else R (.bool false)
 else False else False else R (.bool false)else False else False else bif ty !=1 then bif OK (.lst x n cs) (.lst p k ds) (.lst y m es) []then bif KV h n cs k ds m
 es then bif AV h (.lst x n cs) ch se ok ver (.lst p k ds) now (.lst y m es) []==BV h cs ch se ok ver ds now es then bif OK (.lst x n cs) (.lst p k ds) (.lst y m
 es) []then bif KV h n cs k ds m es then bif EV h (.lst x n cs) ch se ty be ok ver (.lst p k ds) now (.lst y m es) []==RV h cs ch se ty be ok ver ds now es then R
 (.bool true)else R (.bool false)else False else False else R (.bool false)else False else False else bif decide ((↑n:Int)>0)then bif OK (.lst x n cs) (.lst p
 k ds) (.lst y m es) []then bif KV h n cs k ds m es then bif AV h (.lst x n cs) ch se ok ver (.lst p k ds) now (.lst y m es) []==BV h cs ch se ok ver ds now es then
 bif OK (.lst x n cs) (.lst p k ds) (.lst y m es) []then bif KV h n cs k ds m es then bif EV h (.lst x n cs) ch se ty be ok ver (.lst p k ds) now (.lst y m es) []
 ==RV h cs ch se ty be ok ver ds now es then R (.bool true)else R (.bool false)else False else False else R (.bool false)else False else False else bif OK (.lst x
 n cs) (.lst p k ds) (.lst y m es) []then bif KV h n cs k ds m es then bif AV h (.lst x n cs) ch se ok ver (.lst p k ds) now (.lst y m es) []==BV h cs ch se ok ver
 ds now es then bif OK (.lst x n cs) (.lst p k ds) (.lst y m es) []then bif KV h n cs k ds m es then bif EV h (.lst x n cs) ch se ty be ok ver (.lst p k ds) now
 (.lst y m es) []==RV h cs ch se ty be ok ver ds now es then R (.bool false)else R (.bool false)else False else False else R (.bool false)else False else False
 else False else False else False):=by kernel_rfl
theorem ad_see{st:St}{P:V}{l:List TL}(hv:eu st P=some (true,l))(hu:l.all inU=true)(hl:l.length≤9223372036854775807)(p:Value)(d:List (List UInt8))(hd:d.length≤9223372036854775807)(y:Value)(e:List (List UInt8))(he:e.length≤9223372036854775807):
  adOK P (.lst p d.length (strs d)) (.lst y e.length (strs e)) st=true∧(∀h ch se ok ver now,adV h P ch se ok ver (.lst p d.length (strs d)) now (.lst y e.length (strs e)) st=adC h l ch se ok ver d now e)∧(∀h ch se ty be ok ver now,reV h P ch se ty be ok ver (.lst p d.length (strs d)) now (.lst y e.length (strs e)) st=reC h l ch se ty be ok ver d now e):=by
 have vS:∀(z:Value) (r:List (List UInt8)),bC st (.lst z r.length (strs r))=some (true,r):=fun z r=>by
  unfold bC cQ;simp only[aE,Nat.mul_one,a9,bD,ai,bv]
 refine⟨?_,fun _ _ _ _ _ _=>?_,fun _ _ _ _ _ _ _ _=>?_⟩
 ·unfold adOK;rw[hv,vS,vS];show(true&&(true&&(true&&(l.all inU&&(Nat.ble l.length 9223372036854775807&&(Nat.ble d.length 9223372036854775807&&Nat.ble e.length 9223372036854775807))))))=true;rw[hu,ag hl,ag hd,ag he];rfl
 ·unfold adV;rw[hv,vS,vS]
 ·unfold reV;rw[hv,vS,vS]
theorem l1N_ge:∀(l:List (List UInt8)) (n:Nat),n≤l1N n l
 |[],n=>Nat.le_refl _
 |s::r,n=>by
  unfold l1N;split
  ·have:=l1N_ge r (n+5+min 6000 s.length);omega
  ·exact Nat.le_refl _
theorem l2N_ge:∀(l:List TL) (n:Nat),n≤l2N n l
 |[],n=>Nat.le_refl _
 |s::r,n=>by
  unfold l2N;split
  ·have:=l2N_ge r (n+20+min 6000 s.d.length);omega
  ·exact Nat.le_refl _
theorem l1N_all:∀(l:List (List UInt8)) (n:Nat),l1N n l<6000→∀s∈l,s.length<6000
 |[],n,_,s,hs=>by cases hs
 |a::r,n,h,s,hs=>by
  unfold l1N at h;split at h
  ·have h1:=l1N_ge r (n+5+min 6000 a.length);rcases List.mem_cons.1 hs with rfl|hs
   ·omega
   ·exact l1N_all r _ h s hs
  ·omega
theorem p8{l:List (List UInt8)}{r:List TL}(h:qa l r=false):l.all az=true:=by
 unfold qa at h;have h:=bk h;unfold longN at h;have h2:=l2N_ge r (l1N 0 l);rw[List.all_eq_true];intro s hs;have:=l1N_all l 0 (by omega) s hs;exact am (by omega)
theorem jud_close(h:List UInt8)(x:Value)(l:List TL)(ch se:Bool)(ty:Int)(be ok:Bool)(ver:Int)(p:Value)(d:List (List UInt8))(now:Int)(y:Value)(e:List (List UInt8))(h1:l.length≤9223372036854775807)(h4:l.all inU=true)(h2:d.length≤9223372036854775807)(h3:e.length≤9223372036854775807):
  FnSat Qq 4 [.agg [.str h,lstT x l,.bool ch,.bool se,.int .u8 ty],.bool be,.agg [.bool ok,.int .u16 ver,lstS p d],.int .i64 now,lstS y e] [] (fun v _=>v=.bool true):=by
 refine runW_ok (lim:=9) (n:=10) aA NJT_ok ?_;unfold lstT lstS;refine cast (jud_law lK p9 adOK adV reV rnK radV rreV h x l.length (tls l) ch se ty be ok ver p d.length (strs d) now y e.length (strs e) (fun v=>v=.bool true)).symm ?_;have vT:∀st,eu st (.lst x l.length (tls l))=some (true,l):=fun st=>by
  simp only[eu,cQ,ci,i4,dV,a9,Bool.and_true];rw[Nat.mul_comm,a9]
 have vS:∀(st:St) (z:Value) (r:List (List UInt8)),bC st (.lst z r.length (strs r))=some (true,r):=fun st z r=>by
  unfold bC cQ;simp only[aE,Nat.mul_one,a9,bD,ai,bv]
 have e1:∀b1 b2:Blk,bC [b1,b2,Blk.row [V.str h] 9 1] (.slice 2 0 1 false 0 0)=some (true,[h]):=fun b1 b2=>by
  simp only[bC,cQ];rfl
 refine aa ?_ ?_
 ·unfold lK;rw[e1,vT];show(true&&(true&&(Nat.ble 1 9223372036854775807&&Nat.ble l.length 9223372036854775807)))=true;rw[ag h1];rfl
 refine ac (fun _=>rfl) (fun g1=>?_);have g1:qa [h] l=false:=by unfold p9 at g1;rw[e1,vT]at g1;exact g1
 have hh:az h=true:=by have:=p8 g1;rw[List.all_cons,ad]at this;exact this.1
 rw[long_nil p d h2,ae];refine ac (fun _=>rfl) (fun g2=>?_);have g2:qa d []=false:=by unfold p9 at g2;rw[vS]at g2;exact g2
 have hd:=p8 g2;rw[long_nil y e h3,ae];refine ac (fun _=>rfl) (fun _=>?_);obtain⟨a1,a2,a3⟩:=ad_see (vT []) h4 h1 p d h2 y e h3;have hk:rnK h l.length (tls l) d.length (strs d) e.length (strs e)=true:=by
  unfold rnK askK;rw[ji h1,dH h2,dH h3,ci,h4,ai,hd,hh];rfl
 have b1:radV h (tls l) ch se ok ver (strs d) now (strs e)=adC h l ch se ok ver d now e:=by unfold radV;rw[ci,ai,ai]
 have b2:rreV h (tls l) ch se ty be ok ver (strs d) now (strs e)=reC h l ch se ty be ok ver d now e:=by unfold rreV;rw[ci,ai,ai]
 simp only[a1,a2,a3,hk,b1,b2,beq_self_eq_true,ae,bne];have hI:decide ((l.length:Int)>0)=!((l.length:Int)==0):=by cases l<;>simp<;>omega
 rw[hI];cases ty==1<;>cases(l.length:Int)==0<;>exact trivial
end Go.Proofs.YtebkeppoicllmaaGreatDoor
namespace Go.Proofs.YtebkeppoicllmaaGreatDoor
open Go Go.Vm Go.RowKit
theorem u8_wf{n:Int}(h:(Lit.int .u8 n).wf=true):u8B n=true:=by
 have h1:IntKind.u8.min≤n∧n≤IntKind.u8.max:=by simpa[Lit.wf]using h
 have h2:IntKind.u8.min=0:=by decide
 have h3:IntKind.u8.max=255:=by decide
 rw[h2,h3]at h1;unfold u8B;simp only[ad,decide_eq_true_eq];omega
theorem tlsDU:∀(f:Nat) (l:List DD),(∀y∈l,OfSh (f+2) tlSh y)→∃rs:List TL,l.length=rs.length∧cX l=tls rs∧rs.all inU=true
 |f,[],_=>⟨[],rfl,rfl,rfl⟩
 |f,d::r,h=>by
  obtain⟨l0,e0,g0⟩:=ofAgg (h d (by simp));obtain⟨d0,l1,e1,a0,g1⟩:=dp g0;obtain⟨d1,l2,e2,a1,g2⟩:=dp g1;obtain⟨d2,l3,e3,a2,g3⟩:=dp g2;obtain⟨d3,l4,e4,a3,g4⟩:=dp g3;have e5:=qN g4;obtain⟨u,hu⟩:=ofInt a0;obtain⟨s,hs⟩:=ofInt a1;obtain⟨m,hm⟩:=ofInt a2;obtain⟨b,hb⟩:=ofStr a3;have q0:=hu.1;have q1:=hs.1;have q2:=hm.1;have q3:=hb.1;subst e0 e1 e2 e3 e4 e5 q0 q1 q2 q3;obtain⟨rs,h1,h2,h3⟩:=tlsDU f r (fun y hy=>h y (by simp[hy]));exact⟨⟨u,s,m,b⟩::rs,by simp[h1],by simp only[cX,il,h2,tls];rfl,by rw[List.all_cons,h3];unfold inU;rw[u8_wf hs.2,u8_wf hm.2];rfl⟩
end Go.Proofs.YtebkeppoicllmaaGreatDoor
namespace Go.Proofs.YtebkeppoicllmaaGreatDoor
open Go Go.Vm Go.RowKit
open Go.ChangeShapes Go.WideShapes Go.ChangeAt
def needSh:Sh:=.agg [.str,.lst tlSh,.bool,.bool,.int .u8]
theorem needSh_ok:shOk Tryz.prog 9 needSh 38=true:=by kernel_rfl
def IsNeed(w:World)(v:Value):Prop:=∃h xtl tl ch se ty,@real gl (Frz.of w) [] (.agg [.str h,lstT xtl tl,.bool ch,.bool se,.int .u8 ty])=some v∧tl.length≤maxLen∧tl.all inU=true
theorem open_Need{H:Type}{enc:TypeId×Value→H}{W:World}{b0:Nat}{r:Reach}{v:Value}{d:DataW H}{ps:List MemPlace}
  (hval:Value.okWide Tryz.prog W r b0 38 v)(hd:DataW.Trod enc Tryz.prog W 0 (fun _=>true) true 38 v d ps):IsNeed W v:=by
 obtain⟨cs,rfl,_⟩:=okWide_struct Tryz.underlying38 hval;obtain⟨fuel,hf⟩:=hd;obtain⟨dd,h1,h2⟩:=@mD gl _ _ _ _ _ _ _ 9 needSh 38 fuel _ _ needSh_ok hf;obtain⟨l0_0,e0,g0_0⟩:=ofAgg h1;obtain⟨d0_0,l0_1,e0_0,a0_0,g0_1⟩:=dp g0_0;obtain⟨d0_1,l0_2,e0_1,a0_1,g0_2⟩:=dp g0_1;obtain⟨d0_2,l0_3,e0_2,a0_2,g0_3⟩:=dp g0_2;obtain⟨d0_3,l0_4,e0_3,a0_3,g0_4⟩:=dp g0_3;obtain⟨d0_4,l0_5,e0_4,a0_4,g0_5⟩:=dp g0_4;have z0:=qN g0_5;subst e0 e0_0 e0_1 e0_2 e0_3 e0_4 z0;obtain⟨h,q_h,w_h⟩:=ofStr a0_0;subst q_h;obtain⟨xtl,ds_tl,q_tl,w_tl,y_tl⟩:=ofLst a0_1;subst q_tl;obtain⟨tl,n_tl,m_tl,u_tl⟩:=tlsDU _ ds_tl y_tl;obtain⟨ch,q_ch⟩:=ofBool a0_2;subst q_ch;obtain⟨se,q_se⟩:=ofBool a0_3;subst q_se;obtain⟨ty,q_ty,w_ty⟩:=ofInt a0_4;subst q_ty;simp only[il,cX,m_tl,n_tl,List.append_nil,List.cons_append,List.nil_append]at h2;have h3:=@fU gl (Frz.of W) [] _ _ h2;refine⟨h,xtl,tl,ch,se,ty,?_,by rw[←n_tl];exact w_tl,u_tl⟩;have h4:=@Go.Vm.real_agg_mk gl (Frz.of W) [] _ _ h3;rw[show(Value.agg cs).cells=cs from rfl,Array.toArray_toList]at h4;exact h4
def shakeSh:Sh:=.agg [.bool,.int .u16,.lst .str]
theorem shakeSh_ok:shOk Tryz.prog 9 shakeSh 41=true:=by kernel_rfl
def uR(w:World)(v:Value):Prop:=∃sok ver xch ch,@real gl (Frz.of w) [] (.agg [.bool sok,.int .u16 ver,lstS xch ch])=some v∧ch.length≤maxLen
theorem open_Shake{H:Type}{enc:TypeId×Value→H}{W:World}{b0:Nat}{r:Reach}{v:Value}{d:DataW H}{ps:List MemPlace}
  (hval:Value.okWide Tryz.prog W r b0 41 v)(hd:DataW.Trod enc Tryz.prog W 0 (fun _=>true) true 41 v d ps):uR W v:=by
 obtain⟨cs,rfl,_⟩:=okWide_struct Tryz.underlying41 hval;obtain⟨fuel,hf⟩:=hd;obtain⟨dd,h1,h2⟩:=@mD gl _ _ _ _ _ _ _ 9 shakeSh 41 fuel _ _ shakeSh_ok hf;obtain⟨l0_0,e0,g0_0⟩:=ofAgg h1;obtain⟨d0_0,l0_1,e0_0,a0_0,g0_1⟩:=dp g0_0;obtain⟨d0_1,l0_2,e0_1,a0_1,g0_2⟩:=dp g0_1;obtain⟨d0_2,l0_3,e0_2,a0_2,g0_3⟩:=dp g0_2;have z0:=qN g0_3;subst e0 e0_0 e0_1 e0_2 z0;obtain⟨sok,q_sok⟩:=ofBool a0_0;subst q_sok;obtain⟨ver,q_ver,w_ver⟩:=ofInt a0_1;subst q_ver;obtain⟨xch,ds_ch,q_ch,w_ch,y_ch⟩:=ofLst a0_2;subst q_ch;obtain⟨ch,c_ch,m_ch⟩:=strsD _ ds_ch y_ch;have n_ch:ds_ch.length=ch.length:=by rw[c_ch,List.length_map]
 simp only[il,cX,m_ch,n_ch,List.append_nil,List.cons_append,List.nil_append]at h2;have h3:=@fU gl (Frz.of W) [] _ _ h2;refine⟨sok,ver,xch,ch,?_,by rw[←n_ch];exact w_ch⟩;have h4:=@Go.Vm.real_agg_mk gl (Frz.of W) [] _ _ h3;rw[show(Value.agg cs).cells=cs from rfl,Array.toArray_toList]at h4;exact h4
def strsSh:Sh:=.lst .str
theorem strsSh_ok:shOk Tryz.prog 9 strsSh 22=true:=by kernel_rfl
def IsStrs(w:World)(v:Value):Prop:=∃xan an,@real gl (Frz.of w) [] (lstS xan an)=some v∧an.length≤maxLen
theorem open_Strs{H:Type}{enc:TypeId×Value→H}{W:World}{b0:Nat}{r:Reach}{v:Value}{d:DataW H}{ps:List MemPlace}
  (hval:Value.okWide Tryz.prog W r b0 22 v)(hd:DataW.Trod enc Tryz.prog W 0 (fun _=>true) true 22 v d ps):IsStrs W v:=by
 obtain⟨sa,sl,sc,rfl⟩:=okWide_slice Tryz.underlying22 hval;obtain⟨fuel,hf⟩:=hd;obtain⟨dd,h1,h2⟩:=@mD gl _ _ _ _ _ _ _ 9 strsSh 22 fuel _ _ strsSh_ok hf;obtain⟨xan,ds_an,q_an,w_an,y_an⟩:=ofLst h1;subst q_an;obtain⟨an,c_an,m_an⟩:=strsD _ ds_an y_an;have n_an:ds_an.length=an.length:=by rw[c_an,List.length_map]
 simp only[il,cX,m_an,n_an,List.append_nil,List.cons_append,List.nil_append]at h2;have h3:=@fU gl (Frz.of W) [] _ _ h2;refine⟨xan,an,?_,by rw[←n_an];exact w_an⟩;simp only[ap]at h3;split at h3
 ·rename_i q1 q2 q3 q4;obtain⟨e1,_⟩:=List.cons.inj (Option.some.inj h3);subst e1;exact q3
 ·cases h3
theorem nC:maxLen=9223372036854775807:=by decide
theorem bytes_str{w:World}(s:ByteArray):@real gl (Frz.of w) [] (.str s.data.toList)=some (.string s):=by simp[real]
theorem oM(v0:Value)(a1:Bool)(v2:Value)(a3:Int)(v4:Value)(w:World)(x0:IsNeed w v0)(x2:uR w v2)(w3:(Lit.int .i64 a3).wf=true)(x4:IsStrs w v4)(hg:@GOk gl (Frz.of w) w.heap.size w):
  Calls Tryz.prog 4 #[v0,.bool a1,v2,.int .i64 a3,v4] w (fun e w'=>e=.returned (.bool true)∧Below w.heap.size w w'):=by
 obtain⟨h_0,xtl_0,tl_0,ch_0,se_0,ty_0,re0,hy_tl_0,hyu_tl_0⟩:=x0;obtain⟨sok_2,ver_2,xch_2,ch_2,re2,hy_ch_2⟩:=x2;obtain⟨xan_4,an_4,re4,hy_an_4⟩:=x4;refine @frz_law gl Tryz.prog 4 [.agg [.str h_0,lstT xtl_0 tl_0,.bool ch_0,.bool se_0,.int .u8 ty_0],.bool a1,.agg [.bool sok_2,.int .u16 ver_2,lstS xch_2 ch_2],.int .i64 a3,lstS xan_4 an_4] [v0,.bool a1,v2,.int .i64 a3,v4] w (@jud_close (Frz.of w) h_0 xtl_0 tl_0 ch_0 se_0 ty_0 a1 sok_2 ver_2 xch_2 ch_2 a3 xan_4 an_4 (by rw[nC]at hy_tl_0;exact hy_tl_0) hyu_tl_0 (by rw[nC]at hy_ch_2;exact hy_ch_2) (by rw[nC]at hy_an_4;exact hy_an_4)) ?_ hg;simp only[ap,bytes_str,re0,re2,re4]
 try rfl
end Go.Proofs.YtebkeppoicllmaaGreatDoor
namespace Go.Proofs.YtebkeppoicllmaaGreatDoor
open Go Go.Vm Go.RowKit
open Go.ChangeShapes Go.WideShapes Go.ChangeAt Go.WideMaps Go.WideElems
variable [Φ:Frz]
def isFuncT:Option TypeDesc→Bool
 |some (.func _ _ _)=>true
 |_=>false
theorem func_of{o:Option TypeDesc}(h:isFuncT o=true):∃ps rs va,o=some (.func ps rs va):=by
 unfold isFuncT at h;split at h
 ·rename_i ps rs va;exact⟨ps,rs,va,rfl⟩
 ·cases h
def partsD:DataW Unit→List (DataW Unit)
 |.agg l=>l
 |_=>[]
def ofD:DataW Unit→V
 |.lit (.int k n)=>.int k n
 |_=>.bool false
def inD:DataW Unit→DataW Unit
 |.iface _ d=>d
 |d=>d
theorem var_heap{P:Program}{w:World}{n:String}{g:Nat}{cs:Array Value}(hg:P.globalNamed n=some g)(h:w.var? P n=some cs):∃t fz,w.heap[g]?=some (.cells cs t fz):=by
 simp only[World.var?,hg,Option.bind_some]at h;split at h
 ·rename_i c t fz hb;cases h;exact⟨t,fz,hb⟩
 ·cases h
def qT(W:World)(g:Nat)(C:List V):Prop:=∃arr t fz,W.heap[g]?=some (.cells arr t fz)∧∀i v,C[i]?=some v→∃x,real [] v=some x∧arr[0+i]?=some x
theorem int_cells{W:World}{n:String}{g t0 t e N f0:Nat}{k:IntKind}{C:List V}{d:DataW Unit}{cs0:Array Value}{p0:List MemPlace}{sp:Nat→Bool}{held:Bool}{enc:TypeId×Value→Unit}(hg:Tryz.prog.globalNamed n=some g)(hu:Tryz.prog.underlying t=some (.array N e))(hk:Tryz.prog.underlying e=some (.int k))(hw:Tryz.prog.cellsOf e=1)
  (hd:d=.agg (partsD d))(hC:C=(partsD d).map ofD)(ht0:t0=t)(hv0:W.var? Tryz.prog n=some cs0)(hd0:DataW.trod enc Tryz.prog W 0 sp held f0 t0 cs0.toList=some (d,p0)):qT W g C:=by
 subst ht0;obtain⟨ty,fz,hheap⟩:=var_heap hg hv0;refine⟨cs0,ty,fz,hheap,fun i v hv=>?_⟩;obtain⟨xs,m1,rfl,hx1,hlen,hn,hel⟩:=DataW.trod_array hu hd0;rw[hd]at hx1;simp only[Prod.mk.injEq,DataW.agg.injEq]at hx1;have hD:=hx1.1;rw[hC,hD,List.getElem?_map,List.getElem?_map]at hv;cases hxi:xs[i]? with
 |none=>rw[hxi]at hv;cases hv
 |some x=>
  rw[hxi]at hv;simp only[Option.map_some,Option.some.injEq]at hv;have hi:i<N:=by rw[←hn];exact(List.getElem?_eq_some_iff.1 hxi).1
  have h1:=hel i hi;rw[hxi,hw,Nat.mul_one]at h1;obtain⟨a,e0,e1,wa⟩:=DataW.trod_int hk h1;subst e1;simp only[ofD]at hv;subst hv;refine⟨.int k a,rfl,?_⟩;rw[Nat.zero_add];have e2:((cs0.toList.drop i).take 1)[0]?=some (Value.int k a):=by rw[e0];rfl
  rw[List.getElem?_take,if_pos (by omega),List.getElem?_drop,Nat.add_zero]at e2;simpa using e2
theorem rh{W:World}{n:String}{g:Nat}{t e:TypeId}{d:DataW Unit}{b0 b1:UInt8}{r0 r1:List UInt8}{f0 f1:FuncId}(hg:Tryz.prog.globalNamed n=some g)(ht:(Tryz.prog.globals[g]?).map (·.type)=some t)
  (hu:Tryz.prog.underlying t=some (.array 2 e))(hf:∃ps rs va,Tryz.prog.underlying e=some (.func ps rs va))(hw:Tryz.prog.cellsOf e=1)(hc:Tryz.prog.cellsOf t=2)(hd:d.funcsOut=.agg [.held (b0::r0),.held (b1::r1)])
  (h0:((List.range Tryz.prog.funcs.size).filter fun f=>(Tryz.prog.funcs[f]?).any (·.name.toUTF8.data.toList==b0::r0))=[f0])
  (h1:((List.range Tryz.prog.funcs.size).filter fun f=>(Tryz.prog.funcs[f]?).any (·.name.toUTF8.data.toList==b1::r1))=[f1])
  (h:funcsAt Tryz.prog W n d):qT W g [.func (.func f0) [] [],.func (.func f1) [] []]:=by
 obtain⟨ps,rs,va,hfu⟩:=hf;obtain⟨g',t',cs,fuel,p,hg',ht',hv,htr⟩:=h;obtain rfl:=Option.some.inj (hg.symm.trans hg');obtain rfl:=Option.some.inj (ht.symm.trans ht');obtain⟨ty,fz,hheap⟩:=var_heap hg hv;obtain⟨xs,m1,rfl,hx1,hlen,hn,hel⟩:=DataW.trod_array hu htr;rw[hd]at hx1;simp only[Prod.mk.injEq,DataW.agg.injEq]at hx1;have hD:=hx1.1;have one:∀(i:Nat) (b:UInt8) (r:List UInt8) (f:FuncId),i<2→([DataW.held (b0::r0),.held (b1::r1)]:List (DataW (List UInt8)))[i]?=some (.held (b::r))→
   ((List.range Tryz.prog.funcs.size).filter fun f=>(Tryz.prog.funcs[f]?).any (·.name.toUTF8.data.toList==b::r))=[f]→cs[0+i]?=some (.func (.func f) #[] #[]):=by
  intro i b r f hi hb hone;rw[hD,List.getElem?_map]at hb;cases hxi:xs[i]? with
  |none=>rw[hxi]at hb;cases hb
  |some x=>
   rw[hxi]at hb;simp only[Option.map_some,Option.some.injEq]at hb;have h2:=hel i hi;rw[hxi,hw,Nat.mul_one]at h2;have hl:∃v,(cs.toList.drop i).take 1=[v]:=by
    have hcs:cs.toList.length=2:=by
     have:=hlen;rw[hc]at this;simpa using this
    cases hq:cs.toList.drop i with
    |nil=>have:=congrArg List.length hq;simp at this;simp at hcs;omega
    |cons v q=>exact⟨v,rfl⟩
   obtain⟨v,hvv⟩:=hl;rw[hvv]at h2;obtain⟨y,q⟩:=x;simp only at hb;subst hb;have hvf:=func_of_trod hfu hone h2;have e2:((cs.toList.drop i).take 1)[0]?=some v:=by rw[hvv];rfl
   rw[List.getElem?_take,if_pos (by omega),List.getElem?_drop,Nat.add_zero]at e2;rw[Nat.zero_add,←hvf];simpa using e2
 refine⟨cs,ty,fz,hheap,fun i v hv=>?_⟩
 match i,hv with
 |0,hv=>
  simp only[List.getElem?_cons_zero,Option.some.injEq]at hv;subst hv;exact⟨_,rfl,one 0 b0 r0 f0 (by omega) rfl h0⟩
 |1,hv=>
  simp only[List.getElem?_cons_succ,List.getElem?_cons_zero,Option.some.injEq]at hv;subst hv;exact⟨_,rfl,one 1 b1 r1 f1 (by omega) rfl h1⟩
 |i+2,hv=>simp at hv
theorem plain_part{P:Program}{l:List (String×DataW Unit)}{w:World}(h:laidMetH P l w):laidMet P (l.filter fun x=>x.2.handleName?.isNone) w:=by
 unfold laidMetH at h;generalize hfl:(l.filter fun x=>x.2.handleName?.isSome)=fl at h;cases fl with
 |nil=>
  have e:(l.filter fun x=>x.2.handleName?.isNone)=l:=by
   rw[List.filter_eq_self];intro x hx;have:=(List.filter_eq_nil_iff.1 hfl) x hx;cases hn:x.2.handleName? with
   |none=>rfl
   |some s=>rw[hn]at this;exact absurd rfl this
  rw[e];exact h
 |cons a b=>exact h.1
theorem laid_var{P:Program}{w:World}{n:String}{d:DataW Unit}:∀{l:List (String×DataW Unit)} {ps:List MemPlace},DataW.LaidVars P w l ps→(n,d)∈l→∃g t cs fuel p,P.globalNamed n=some g∧(P.globals[g]?).map (·.type)=some t∧w.var? P n=some cs∧DataW.trod (fun _=>()) P w 0 (fun _=>true) false fuel t cs.toList=some (d,p)
 |[],_,_,h=>by cases h
 |(n',d')::r,ps,h,hm=>by
  obtain⟨g,t,cs,fuel,p,q,h1,h2,h3,h4,h5,_⟩:=h;rcases List.mem_cons.1 hm with e|hm
  ·cases e;exact⟨g,t,cs,fuel,p,h1,h2,h3,h4⟩
  ·exact laid_var h5 hm
theorem plain_var{P:Program}{l:List (String×DataW Unit)}{w:World}(h:laidMetH P l w){n:String}{d:DataW Unit}(hm:(n,d)∈l)(hn:d.handleName?.isNone=true):∃g t cs fuel p,P.globalNamed n=some g∧(P.globals[g]?).map (·.type)=some t∧w.var? P n=some cs∧DataW.trod (fun _=>()) P w 0 (fun _=>true) false fuel t cs.toList=some (d,p):=by
 obtain⟨ps,hl,_,_⟩:=plain_part h;exact laid_var hl (List.mem_filter.2 ⟨hm,hn⟩)
theorem own:ownKnob Tryz.prog.godebug=none:=by kernel_rfl
theorem cells_2{W:World}(h:laidMetH Tryz.prog Rows.needJudgesRow.laid W):qT W 2 keyC:=by
 have hm:("mailroom/code.key",(Rows.laid_mailroom_code_key:DataW Unit))∈Rows.needJudgesRow.laid:=List.mem_of_getElem? (i:=0) rfl;obtain⟨g,t,cs,fuel,p,h1,h2,h3,h4⟩:=plain_var h hm rfl;have e1:Tryz.prog.globalNamed "mailroom/code.key"=some 2:=by kernel_rfl
 obtain rfl:=Option.some.inj (e1.symm.trans h1);have e2:(Tryz.prog.globals[2]?).map (·.type)=some 177:=by kernel_rfl
 exact int_cells (n:= "mailroom/code.key") (t:=177) (e:=173) (N:=64) (k:=.u32) e1 (by kernel_rfl) (by kernel_rfl) (by kernel_rfl) rfl (by kernel_rfl) (Option.some.inj (e2.symm.trans h2)).symm h3 h4
theorem cells_1{W:World}(h:laidMetH Tryz.prog Rows.needJudgesRow.laid W):qT W 1 takesC:=by
 have hm:("mailroom/tlsa.takes",DataW.iface "func table" (inD (Rows.laid_mailroom_tlsa_takes:DataW Unit)))∈Rows.needJudgesRow.laid:=List.mem_of_getElem? (i:=1) rfl;exact rh (t:=197) (e:=196) (b0:=109) (r0:=[97,105,108,114,111,111,109,47,116,108,115,97,46,116,97,107,101,115,36,49]) (b1:=109) (r1:=[97,105,108,114,111,111,109,47,116,108,115,97,46,116,97,107,101,115,36,50]) (f0:=276) (f1:=277) (by kernel_rfl) (by kernel_rfl) (by kernel_rfl) (func_of (by kernel_rfl)) (by kernel_rfl) (by kernel_rfl) (by kernel_rfl) (by kernel_rfl) (by kernel_rfl) (h.funcs hm)
theorem cells_0{W:World}(h:laidMetH Tryz.prog Rows.needJudgesRow.laid W):qT W 0 makesC:=by
 have hm:("mailroom/tlsa.makes",DataW.iface "func table" (inD (Rows.laid_mailroom_tlsa_makes:DataW Unit)))∈Rows.needJudgesRow.laid:=List.mem_of_getElem? (i:=2) rfl;exact rh (t:=195) (e:=83) (b0:=109) (r0:=[97,105,108,114,111,111,109,47,116,108,115,97,46,109,97,107,101,115,36,49]) (b1:=109) (r1:=[97,105,108,114,111,111,109,47,99,111,100,101,46,83,117,109]) (f0:=275) (f1:=76) (by kernel_rfl) (by kernel_rfl) (by kernel_rfl) (func_of (by kernel_rfl)) (by kernel_rfl) (by kernel_rfl) (by kernel_rfl) (by kernel_rfl) (by kernel_rfl) (h.funcs hm)
theorem laid_gok{W:World}(hΦ:∀k o,Φ.φ k=some o→W.heap[k]?=some o)(h:laidMetH Tryz.prog Rows.needJudgesRow.laid W):GOk W.heap.size W:=by
 have low:∀{g:Nat} {C:List V},qT W g C→g<W.heap.size:=fun⟨_,_,_,hh,_⟩=>(Array.getElem?_eq_some_iff.1 hh).1;refine⟨fun k cs hk=>?_,fun k hk=>?_,fun k o hk=>⟨(Array.getElem?_eq_some_iff.1 (hΦ k o hk)).1,hΦ k o hk⟩⟩
 ·have fin:∀{g:Nat} {C:List V},qT W g C→g<W.heap.size∧∃arr t fz,W.heap[g]?=some (.cells arr t fz)∧(∀i v,C[i]?=some v→∃x,real [] v=some x∧arr[0+i]?=some x):=fun hc=>⟨low hc,hc⟩
  match k,hk with
  |0,hk=>cases hk;obtain⟨a,arr,t,fz,h1,h2⟩:=fin (cells_0 h);exact⟨a,arr,t,fz,h1,h2,fun hf=>by cases hf⟩
  |1,hk=>cases hk;obtain⟨a,arr,t,fz,h1,h2⟩:=fin (cells_1 h);exact⟨a,arr,t,fz,h1,h2,fun hf=>by cases hf⟩
  |2,hk=>cases hk;obtain⟨a,arr,t,fz,h1,h2⟩:=fin (cells_2 h);exact⟨a,arr,t,fz,h1,h2,fun hf=>by cases hf⟩
  |k+3,hk=>cases hk
 ·cases hk
end Go.Proofs.YtebkeppoicllmaaGreatDoor
end
