/- Parts of this work: what the functions come to. -/
import Derived.Test.YtebkeppoicllmaaGreatDoorP3
import Derived.Test.YtebkeppoicllmaaGreatDoorP2
import Derived.Test.YtebkeppoicllmaaGreatDoorP1
import Derived.Test.YtebkeppoicllmaaGreatDoorVmc
noncomputable section
set_option linter.unusedVariables false
set_option linter.unusedSectionVars false
set_option maxRecDepth 100000
namespace Go.Proofs.YtebkeppoicllmaaGreatDoor
open Go.IntKind (u8 u16 u32 u64 i8 i16 i32 i64)
open Go Go.Vm Go.RowKit
variable [Φ:Frz]
def jOK(p q:V)(st:St):Bool:=match bC st p,bC st q with
 |some (b,l),some (c,r)=>b&&(c&&(Nat.ble l.length 9223372036854775807&&Nat.ble r.length 9223372036854775807))
 |_,_=>false
def jV(p:V)(h:List UInt8)(now:Int)(q:V)(st:St):Int:=match bC st p,bC st q with
 |some (_,l),some (_,an)=>dc h now an (bM l)
 |_,_=>0
def judgeGV(OK:V→V→St→Bool)(JV:V→List UInt8→Int→V→St→Int):List V→St→Option (Qx)
 |[p,.str h,.int .i64 now,q],st=>some [(OK p q st,(.int .u8 (JV p h now q st),st))]
 |_,_=>none
theorem judgeGV_ok(args:List V)(s:St)(l:Qx)(o:V×St)(h:judgeGV jOK jV args s=some l)(ho:aL l=some o):FnSat Qq 13 args s (Is o):=by
 unfold judgeGV at h;split at h
 ·rename_i p hh now q;cases h;obtain⟨hb,rfl⟩:=aO ho;unfold jOK at hb;split at hb
  ·rename_i b ls c an hv hw;simp only[ad]at hb;obtain⟨rfl,rfl,h1,h2⟩:=hb;have hL:jV p hh now q s=dc hh now an (bM ls):=by unfold jV;rw[hv,hw]
   rw[hL];refine cx rfl fun B W0 w m rargs hr ha=>?_;obtain⟨x,r,q1,q2,rfl⟩:=aj ha;obtain⟨x2,r2,q3,q4,rfl⟩:=aj q2;obtain⟨x3,r3,q5,q6,rfl⟩:=aj q4;obtain⟨x4,r4,q7,q8,rfl⟩:=aj q6;have g1:=cB hr hv q1;have g2:=cB hr hw q7;have g3:=bJ (Ψ:=Frz.of w) (m':=[]) _ _ rfl q3;have g4:=bJ (Ψ:=Frz.of w) (m':=[]) _ _ rfl q5;have g5:=bw (Ψ:=Frz.of w) (m':=[]) _ _ rfl q8;exact⟨[lstS x ls,.str hh,.int .i64 now,lstS x4 an],@aI _ (Frz.of w) [] _ _ _ _ g1 (@aI _ (Frz.of w) [] _ _ _ _ g3 (@aI _ (Frz.of w) [] _ _ _ _ g4 (@aI _ (Frz.of w) [] _ _ _ _ g2 g5))),@judge_sat (Frz.of w) x ls hh now x4 an (aw h1) (aw h2)⟩
  ·cases hb
 ·cases h
def uc(OK:V→V→St→Bool)(JV:V→List UInt8→Int→V→St→Int):List V→St→Option (Qx)
 |[p,.str h,.int .i64 now,q],st=>some [(OK p q st&&JV p h now q st==0,(.int .u8 0,st)),(OK p q st&&JV p h now q st==1,(.int .u8 1,st)),(OK p q st&&JV p h now q st==2,(.int .u8 2,st)),(OK p q st&&JV p h now q st==3,(.int .u8 3,st))]
 |_,_=>none
theorem judgeFV_ok(args:List V)(s:St)(l:Qx)(o:V×St)(h:uc jOK jV args s=some l)(ho:aL l=some o):FnSat Qq 13 args s (Is o):=by
 unfold uc at h;split at h
 ·rename_i p hh now q;cases h;have go:∀k:Int,(jOK p q s&&jV p hh now q s==k)=true→FnSat Qq 13 [p,.str hh,.int .i64 now,q] s (Is (.int .u8 k,s)):=fun k hk=>by
   rw[ad]at hk;have e:=eq_of_beq hk.2;refine judgeGV_ok [p,.str hh,.int .i64 now,q] s _ (.int .u8 k,s) rfl ?_;rw[hk.1,e];rfl
  cases h0:(jOK p q s&&jV p hh now q s==0)with
  |true=>rw[h0]at ho;cases ho;exact go 0 h0
  |false=>
  cases h1:(jOK p q s&&jV p hh now q s==1)with
  |true=>rw[h0,h1]at ho;cases ho;exact go 1 h1
  |false=>
  cases h2:(jOK p q s&&jV p hh now q s==2)with
  |true=>rw[h0,h1,h2]at ho;cases ho;exact go 2 h2
  |false=>
  cases h3:(jOK p q s&&jV p hh now q s==3)with
  |true=>rw[h0,h1,h2,h3]at ho;cases ho;exact go 3 h3
  |false=>rw[h0,h1,h2,h3]at ho;cases ho
 ·cases h
def AD(OK:V→V→St→Bool)(AV:V→V→List UInt8→Int→St→Bool)(JOK:V→V→St→Bool)(JV:V→List UInt8→Int→V→St→Int):Tab:=⟨noT,addS (addS noL 102 (anyGV OK AV)) 13 (uc JOK JV),aT 9⟩
theorem AD_ok:TabOk3 Qq (AD yOK yV jOK jV):=⟨aJ,bP (bP aK anyGV_ok) judgeFV_ok,au 9⟩
theorem ask_tree(OK:V→V→St→Bool)(AV:V→V→List UInt8→Int→St→Bool)(JOK:V→V→St→Bool)(JV:V→List UInt8→Int→V→St→Int)(h:List UInt8)(x:Value)(n:Nat)(cs:List V)(ch se:Bool)(ty:Int)(ok:Bool)(ver:Int)(p:Value)(k:Nat)(ds:List V)(now:Int)(y:Value)(m:Nat)(es:List V)(st cf:Bool)(R:V→Prop):runW Qq (AD OK AV JOK JV) 9 10 53 [.agg [.str h,.lst x n cs,.bool ch,.bool se,.int .u8 ty],.agg [.bool ok,.int .u16 ver,.lst p k ds],.int .i64 now,.lst y m es,.bool st,.bool cf] R=
  (
 bif !ok then R (.int u8 2)else bif st then bif decide (ver<771)then R (.int u8 2)else bif decide ((↑n:Int)>0)then bif OK (.lst x n cs) (.lst
 p k ds) []then bif !AV (.lst x n cs) (.lst p k ds) h now []then R (.int u8 2)else bif !cf then R (.int u8 0)else bif JOK (.lst p k ds) (.lst y m
 es) []&&JV (.lst p k ds) h now (.lst y m es) []==0 then R (.int u8 0)else bif JOK (.lst p k ds) (.lst y m es) []&&JV (.lst p k ds) h now (.lst y m
 es) []==1 then R (.int u8 3)else bif JOK (.lst p k ds) (.lst y m es) []&&JV (.lst p k ds) h now (.lst y m es) []==2 then R (.int u8 4)else
 bif JOK (.lst p k ds) (.lst y m es) []&&JV (.lst p k ds) h now (.lst y m es) []==3 then R (.int u8 5)else False else False else bif !cf then R (.int
 u8 0)else bif JOK (.lst p k ds) (.lst y m es) []&&JV (.lst p k ds) h now (.lst y m es) []==0 then R (.int u8 0)else bif JOK (.lst p k ds)
 (.lst y m es) []&&JV (.lst p k ds) h now (.lst y m es) []==1 then R (.int u8 3)else bif JOK (.lst p k ds) (.lst y m es) []&&JV (.lst p k ds) h now
 (.lst y m es) []==2 then R (.int u8 4)else bif JOK (.lst p k ds) (.lst y m es) []&&JV (.lst p k ds) h now (.lst y m es) []==3 then R (.int
 u8 5)else False else bif decide ((↑n:Int)>0)then bif OK (.lst x n cs) (.lst p k ds) []then bif !AV (.lst x n cs) (.lst p k ds) h now []then R (.int
 u8 2)else bif !cf then R (.int u8 0)else bif JOK (.lst p k ds) (.lst y m es) []&&JV (.lst p k ds) h now (.lst y m es) []==0 then R (.int
 u8 0)else bif JOK (.lst p k ds) (.lst y m es) []&&JV (.lst p k ds) h now (.lst y m es) []==1 then R (.int u8 3)else bif JOK (.lst p k ds)
 (.lst y m es) []&&JV (.lst p k ds) h now (.lst y m es) []==2 then R (.int u8 4)else bif JOK (.lst p k ds) (.lst y m es) []&&JV (.lst p k ds) h now
 (.lst y m es) []==3 then R (.int u8 5)else False else False else bif !cf then R (.int u8 0)else bif JOK (.lst p k ds) (.lst y m es) []&&JV
 (.lst p k ds) h now (.lst y m es) []==0 then R (.int u8 0)else bif JOK (.lst p k ds) (.lst y m es) []&&JV (.lst p k ds) h now (.lst y m es) []==1
 then R (.int u8 3)else bif JOK (.lst p k ds) (.lst y m es) []&&JV (.lst p k ds) h now (.lst y m es) []==2 then R (.int u8 4)else bif JOK
 (.lst p k ds) (.lst y m es) []&&JV (.lst p k ds) h now (.lst y m es) []==3 then R (.int u8 5)else False):=by kernel_rfl
def whI(j:Int):Int:=bif j==0 then 0 else bif j==1 then 3 else bif j==2 then 4 else 5
def askC(h:List UInt8)(keys:List TL)(ok:Bool)(ver:Int)(chain:List (List UInt8))(now:Int)(an:List (List UInt8))(st cf:Bool):Int:=
 bif !ok||(st&&decide (ver<771))then 2 else bif !keys.isEmpty&&!anyC (bx (keys.take 4)) chain h now then 2 else bif !cf then 0 else whI (dc h now an (bM chain))
def askK(n:Nat)(cs:List V)(k:Nat)(ds:List V)(m:Nat)(es:List V):Bool:=okT n cs&&(okS k ds&&(okS m es&&(tlD cs).all inU))
def askV(h:List UInt8)(cs:List V)(ok:Bool)(ver:Int)(ds:List V)(now:Int)(es:List V)(st cf:Bool):Int:=askC h (tlD cs) ok ver (ds.map ab) now (es.map ab) st cf
def askT:List V→Option (Qx)
 |[.agg [.str h,.lst _ n cs,.bool _,.bool _,.int .u8 _],.agg [.bool ok,.int .u16 ver,.lst _ k ds],.int .i64 now,.lst _ m es,.bool st,.bool cf]=>some [(askK n cs k ds m es,(.int .u8 (askV h cs ok ver ds now es st cf),[]))]
 |_=>none
theorem qh(h:List UInt8)(now:Int)(an:List (List UInt8)):∀L:List CR,dc h now an L=0∨dc h now an L=1∨dc h now an L=2∨dc h now an L=3
 |[]=>.inr (.inr (.inr rfl))
 |c::r=>by
  cases h1:(!aS c.f c.u now)with
  |true=>exact .inr (.inl (gB h1))
  |false=>
  cases h2:(!hasH c.l h)with
  |true=>exact .inr (.inr (.inl (gA h1 h2)))
  |false=>
  cases h3:(!dg now an none (c::r))with
  |true=>exact .inr (.inr (.inr (gz h1 h2 h3)))
  |false=>exact .inl (gC h1 h2 h3)
theorem askT_ok(args:List V)(L:Qx)(o:V×St)(h:askT args=some L)(ho:aL L=some o):FnSat Qq 53 args [] (Is o):=by
 unfold askT at h;split at h
 ·rename_i hh x n cs ch se ty ok ver p k ds now y m es st cf;cases h;obtain⟨hk,rfl⟩:=aO ho;unfold askK at hk;simp only[ad]at hk;obtain⟨h1,h2,h3,h4⟩:=hk;obtain⟨l,rfl,rfl,l1,l2⟩:=fL h1;obtain⟨d,rfl,rfl,d1,d2⟩:=cn h2;obtain⟨e,rfl,rfl,e1,e2⟩:=cn h3;rw[l2]at h4;have vT:eu [] (.lst x l.length (tls l))=some (true,l):=by
   unfold eu cQ;simp only[dV,Nat.mul_comm,a9,i4,ci,bv]
  have vS:∀(z:Value) (r:List (List UInt8)),bC [] (.lst z r.length (strs r))=some (true,r):=fun z r=>by
   unfold bC cQ;simp only[aE,Nat.mul_one,a9,bD,ai,bv]
  have a1:yOK (.lst x l.length (tls l)) (.lst p d.length (strs d)) []=true:=by
   unfold yOK;rw[vT,vS];show(true&&(true&&(l.all inU&&(Nat.ble l.length 9223372036854775807&&Nat.ble d.length 9223372036854775807))))=true;rw[h4,ag l1,ag d1];rfl
  have a2:yV (.lst x l.length (tls l)) (.lst p d.length (strs d)) hh now []=anyC (bx (l.take 4)) d hh now:=by
   unfold yV;rw[vT,vS]
  have a3:jOK (.lst p d.length (strs d)) (.lst y e.length (strs e)) []=true:=by
   unfold jOK;rw[vS,vS];show(true&&(true&&(Nat.ble d.length 9223372036854775807&&Nat.ble e.length 9223372036854775807)))=true;rw[ag d1,ag e1];rfl
  have a4:jV (.lst p d.length (strs d)) hh now (.lst y e.length (strs e)) []=dc hh now e (bM d):=by
   unfold jV;rw[vS,vS]
  refine ax (lim:=9) (n:=10) aA AD_ok rfl rfl ?_;rw[ask_tree,a1,a2,a3,a4];unfold askV askC;rw[ci,ai,ai];have hJ:=qh hh now e (bM d);generalize dc hh now e (bM d)=J at*
  generalize anyC (bx (l.take 4)) d hh now=A;have hn:decide ((l.length:Int)>0)=!l.isEmpty:=by cases l<;>simp
  rw[hn];generalize l.isEmpty=E;generalize decide (ver<771)=W;cases ok<;>cases st<;>cases W<;>cases E<;>cases A<;>cases cf<;>first|rfl|(rcases hJ with rfl|rfl|rfl|rfl<;>rfl)
 ·cases h
def AE:Tab:=⟨addT noT 53 askT,noL,aT 9⟩
theorem AE_ok:TabOk3 Qq AE:=⟨aR aJ askT_ok,aK,au 9⟩
theorem ad_tree(h:List UInt8)(x:Value)(n:Nat)(cs:List V)(ch se:Bool)(ty:Int)(ok:Bool)(ver:Int)(p:Value)(k:Nat)(ds:List V)(now:Int)(y:Value)(m:Nat)(es:List V)(R:V→Prop):runW Qq AE 9 10 20 [.agg [.str h,.lst x n cs,.bool ch,.bool se,.int .u8 ty],.agg [.bool ok,.int .u16 ver,.lst p k ds],.int .i64 now,.lst y m es] R=
  (
 bif !se then R (.bool ok)else bif askK n cs k ds m es then R (.bool (askV h cs ok ver ds now es true ch==0))else False):=by kernel_rfl
theorem re_tree(h:List UInt8)(x:Value)(n:Nat)(cs:List V)(ch se:Bool)(ty:Int)(be:Bool)(ok:Bool)(ver:Int)(p:Value)(k:Nat)(ds:List V)(now:Int)(y:Value)(m:Nat)(es:List V)(R:V→Prop):runW Qq AE 9 10 22 [.agg [.str h,.lst x n cs,.bool ch,.bool se,.int .u8 ty],.bool be,.agg [.bool ok,.int .u16 ver,.lst p k ds],.int .i64 now,.lst y m es] R=
  (
 bif !be then R (.int u8 1)else bif ty==0 then bif (↑n:Int)==0 then bif ch then bif se then bif askK n cs k ds m es then R (.int u8 (askV h cs ok
 ver ds now es true true))else False else bif askK n cs k ds m es then R (.int u8 (askV h cs ok ver ds now es false true))else False else bif se then bif askK n
 cs k ds m es then R (.int u8 (askV h cs ok ver ds now es true (ty==2)))else False else bif askK n cs k ds m es then R (.int u8 (askV h cs ok ver ds
 now es false (ty==2)))else False else bif se then bif askK n cs k ds m es then R (.int u8 (askV h cs ok ver ds now es true false))else False else bif askK n
 cs k ds m es then R (.int u8 (askV h cs ok ver ds now es false false))else False else bif (↑n:Int)==0 then bif ch then bif se then bif askK n cs k ds m es
 then R (.int u8 (askV h cs ok ver ds now es true true))else False else bif askK n cs k ds m es then R (.int u8 (askV h cs ok ver ds now es (!ty==3)
 true))else False else bif se then bif askK n cs k ds m es then R (.int u8 (askV h cs ok ver ds now es true (ty==2)))else False else bif askK n cs k ds m es
 then R (.int u8 (askV h cs ok ver ds now es (!ty==3) (ty==2)))else False else bif se then bif askK n cs k ds m es then R (.int u8 (askV h cs ok ver
 ds now es true false))else False else bif askK n cs k ds m es then R (.int u8 (askV h cs ok ver ds now es (!ty==3) false))else False):=by kernel_rfl
def rjOK(p:V)(h:List UInt8)(q:V)(st:St):Bool:=match bC st p,bC st q with
 |some (b,l),some (c,r)=>b&&(c&&(Nat.ble l.length 9223372036854775807&&(Nat.ble r.length 9223372036854775807&&(l.all az&&az h))))
 |_,_=>false
def px(OK:V→List UInt8→V→St→Bool)(JV:V→List UInt8→Int→V→St→Int):List V→St→Option (Qx)
 |[p,.str h,.int .i64 now,q],st=>some [(OK p h q st,(.int .u8 (JV p h now q st),st))]
 |_,_=>none
theorem rjudgeG_ok(args:List V)(s:St)(l:Qx)(o:V×St)(h:px rjOK jV args s=some l)(ho:aL l=some o):FnSat Qq 14 args s (Is o):=by
 unfold px at h;split at h
 ·rename_i p hh now q;cases h;obtain⟨hb,rfl⟩:=aO ho;unfold rjOK at hb;split at hb
  ·rename_i b ls c an hv hw;simp only[ad]at hb;obtain⟨rfl,rfl,h1,h2,h3,h4⟩:=hb;have hL:jV p hh now q s=dc hh now an (bM ls):=by unfold jV;rw[hv,hw]
   rw[hL];refine cx rfl fun B W0 w m rargs hr ha=>?_;obtain⟨x,r,q1,q2,rfl⟩:=aj ha;obtain⟨x2,r2,q3,q4,rfl⟩:=aj q2;obtain⟨x3,r3,q5,q6,rfl⟩:=aj q4;obtain⟨x4,r4,q7,q8,rfl⟩:=aj q6;have g1:=cB hr hv q1;have g2:=cB hr hw q7;have g3:=bJ (Ψ:=Frz.of w) (m':=[]) _ _ rfl q3;have g4:=bJ (Ψ:=Frz.of w) (m':=[]) _ _ rfl q5;have g5:=bw (Ψ:=Frz.of w) (m':=[]) _ _ rfl q8;exact⟨[lstS x ls,.str hh,.int .i64 now,lstS x4 an],@aI _ (Frz.of w) [] _ _ _ _ g1 (@aI _ (Frz.of w) [] _ _ _ _ g3 (@aI _ (Frz.of w) [] _ _ _ _ g4 (@aI _ (Frz.of w) [] _ _ _ _ g2 g5))),@rjudge_sat (Frz.of w) x ls hh now x4 an (aw h1) (aw h2) h3 h4⟩
  ·cases hb
 ·cases h
theorem rus_tree(u s m:Int)(d:List UInt8)(R:V→Prop):runW Qq T3 9 10 105 [.agg [.int .u8 u,.int .u8 s,.int .u8 m,.str d]] R=
  (
 bif u==2 then bif decide (s<2)then bif decide (m<2)then bif decide ((↑d.length:Int)≥1)then bif decide ((↑d.length:Int)≤512)then bif m==0 then R
 (.bool true)else R (.bool ((↑d.length:Int)==32))else R (.bool false)else R (.bool false)else R (.bool false)else R (.bool false)else bif u==3 then bif
 decide (s<2)then bif decide (m<2)then bif decide ((↑d.length:Int)≥1)then bif decide ((↑d.length:Int)≤512)then bif m==0 then R (.bool true)else R
 (.bool ((↑d.length:Int)==32))else R (.bool false)else R (.bool false)else R (.bool false)else R (.bool false)else R (.bool false)):=by kernel_rfl
def RK0:Tab:=⟨addT (addT (addP noT 144 mj) 192 sumT) 41 rdecT,noL,aT 9⟩
theorem RK0_ok:TabOk3 Qq RK0:=⟨aR (aR (bg aJ po) rsum_ok) rdec_ok,aK,au 9⟩
theorem rdat_tree(u s m:Int)(d c:List UInt8)(R:V→Prop):runW Qq RK0 9 10 196 [.agg [.int .u8 u,.int .u8 s,.int .u8 m,.str d],.str c] R=
  (
 bif az c&&Nat.blt 512 c.length then R (.tuple [.str [],.bool false])else bif az c&&decE c !=0 then R (.tuple [.str [],.bool false])else bif az c
 then bif s==1 then bif m==1 then bif okL (cy (dK c))then R (.tuple [.str (sumF (cy (dK c))),.bool true])else False else R (.tuple [.str (cy (dK c)),
 .bool true])else bif m==1 then bif okL c then R (.tuple [.str (sumF c),.bool true])else False else R (.tuple [.str c,.bool true])else False):=by kernel_rfl
def rusP:List V→Option (Qx)
 |[.agg [.int .u8 u,.int .u8 s,.int .u8 m,.str d]]=>some [(u8B s&&u8B m,(.bool (usB u s m d),[]))]
 |_=>none
theorem u8_in{n:Int}(h:u8B n=true):0≤n∧n≤255:=aN h
theorem rus_ok(args:List V)(l:Qx)(o:V×St)(h:rusP args=some l)(ho:aL l=some o):FnSat Qq 105 args [] (Is o):=by
 unfold rusP at h;split at h
 ·rename_i u s m d;cases h;obtain⟨hk,rfl⟩:=aO ho;rw[ad]at hk;have h1:=u8_in hk.1;have h2:=u8_in hk.2;refine ax (lim:=9) (n:=10) aA qS rfl rfl ?_;rw[rus_tree];unfold usB;have ws:i64.wrap s=s:=IntWalk.i64_in _ ⟨by omega,by omega⟩;have wm:i64.wrap m=m:=IntWalk.i64_in _ ⟨by omega,by omega⟩;have e1:decide (s<2)=!decide (i64.wrap s≥2):=by
   rw[ws];by_cases h:s<2
   ·rw[am h,bH (by omega)];rfl
   ·rw[bH h,am (by omega)];rfl
  have e2:decide (m<2)=!decide (i64.wrap m≥2):=by
   rw[wm];by_cases h:m<2
   ·rw[am h,bH (by omega)];rfl
   ·rw[bH h,am (by omega)];rfl
  have e3:decide ((d.length:Int)≥1)=!(d==[]):=by
   cases d with
   |nil=>rfl
   |cons b r=>rw[am (by simp only[bi];omega)];rfl
  rw[e1,e2,e3];cases u==2<;>cases u==3<;>cases decide (i64.wrap s≥2)<;>cases decide (i64.wrap m≥2)<;>cases d==[]<;>cases decide ((d.length:Int)≤512)<;>cases m==0<;>rfl
 ·cases h
def takeR(s:Int)(c:List UInt8):List UInt8:=bif s==1 then cy (dK c)else c
def datR(s m:Int)(c:List UInt8):List UInt8:=bif m==1 then sumF (takeR s c)else takeR s c
def rdatT:List V→Option (Qx)
 |[.agg [.int .u8 _,.int .u8 s,.int .u8 m,.str _],.str c]=>some [(az c,(.tuple [.str (bif decE c==0 then datR s m c else[]),.bool (decE c==0)],[]))]
 |_=>none
theorem rdat_ok(args:List V)(l:Qx)(o:V×St)(h:rdatT args=some l)(ho:aL l=some o):FnSat Qq 196 args [] (Is o):=by
 unfold rdatT at h;split at h
 ·rename_i u s m d c;cases h;obtain⟨hk,rfl⟩:=aO ho;refine ax (lim:=9) (n:=10) aA RK0_ok rfl rfl ?_;rw[rdat_tree,hk,ae,aH,aH];refine ac (fun h1=>?_) (fun h1=>?_)
  ·rw[(by simpa using f7 h1:(decE c==0)=false)];rfl
  refine ac (fun h2=>?_) (fun h2=>?_)
  ·rw[(by simpa using h2:(decE c==0)=false)];rfl
  have h2:(decE c==0)=true:=by simpa using h2
  have kc:okL c=true:=am (by
   have:¬512<c.length:=fun hb=>by have:=ag hb;exact absurd (show Nat.blt 512 c.length=true from this) (by rw[h1];decide)
   omega)
  have kk:okL (cy (dK c))=true:=am (by have:=spki_len (dK c);omega);rw[h2,kc,kk];unfold datR takeR;cases s==1<;>cases m==1<;>rfl
 ·cases h
def RK1:Tab:=⟨addT (addT noT 105 rusP) 196 rdatT,noL,aT 9⟩
theorem RK1_ok:TabOk3 Qq RK1:=⟨aR (aR aJ rus_ok) rdat_ok,aK,au 9⟩
theorem rof_tree(u s m:Int)(d c:List UInt8)(R:V→Prop):runW Qq RK1 9 10 159 [.agg [.int .u8 u,.int .u8 s,.int .u8 m,.str d],.str c] R=
  (
 bif az c then bif decE c==0 then bif u8B s&&u8B m then bif usB u s m d then R (.bool ((bif decE c==0 then datR s m c else[])==d))else R (.bool false)else
 False else R (.bool false)else False):=by kernel_rfl
def rofT:List V→Option (Qx)
 |[.agg [.int .u8 u,.int .u8 s,.int .u8 m,.str d],.str c]=>some [(az c&&(u8B s&&u8B m),(.bool (ofB u s m d c),[]))]
 |_=>none
theorem of_same{u s m:Int}{d c:List UInt8}(h1:0≤s∧s≤255)(h2:0≤m∧m≤255):ofB u s m d c=((decE c==0)&&(usB u s m d&&(datR s m c==d))):=by
 have ws:i64.wrap s=s:=IntWalk.i64_in _ ⟨by omega,by omega⟩;have wm:i64.wrap m=m:=IntWalk.i64_in _ ⟨by omega,by omega⟩;unfold ofB fa;cases hu:usB u s m d with
 |false=>simp
 |true=>
  unfold usB at hu;rw[ad,ad,ad,Bool.not_eq_true',Bool.not_eq_true']at hu;obtain⟨_,h3,h4,_⟩:=hu;rw[h3,h4];rw[ws]at h3;rw[wm]at h4;have h3:=bk h3;have h4:=bk h4;have e:qB s m c=datR s m c:=by
   unfold qB datR takeB takeR;rcases(by omega:s=0∨s=1)with h|h<;>rcases(by omega:m=0∨m=1)with h'|h'<;>subst h<;>subst h'<;>rfl
  rw[e];cases decE c==0<;>rfl
theorem rof_ok(args:List V)(l:Qx)(o:V×St)(h:rofT args=some l)(ho:aL l=some o):FnSat Qq 159 args [] (Is o):=by
 unfold rofT at h;split at h
 ·rename_i u s m d c;cases h;obtain⟨hk,rfl⟩:=aO ho;rw[ad,ad]at hk;refine ax (lim:=9) (n:=10) aA RK1_ok rfl rfl ?_;rw[rof_tree,of_same (u8_in hk.2.1) (u8_in hk.2.2),hk.1,hk.2.1,hk.2.2];cases decE c==0<;>cases usB u s m d<;>rfl
 ·cases h
def uv(OK:V→St→Bool)(DV:V→Int→St→Bool):List V→St→Option (Qx)
 |[p,.int .i64 now],st=>some [(OK p st,(.bool (DV p now st),st))]
 |_,_=>none
def dOK(p:V)(st:St):Bool:=match p with
 |.agg [.str _,.str _,q,.int .i64 _,.int .i64 _,.bool _]=>match bC st q with
  |some (b,_)=>b
  |none=>false
 |_=>false
def dDV(p:V)(now:Int)(st:St):Bool:=match p with
 |.agg [.str _,.str _,_,.int .i64 f,.int .i64 u,.bool _]=>aS f u now
 |_=>false
theorem datesGV_ok(args:List V)(s:St)(l:Qx)(o:V×St)(h:uv dOK dDV args s=some l)(ho:aL l=some o):FnSat Qq 45 args s (Is o):=by
 unfold uv at h;split at h
 ·rename_i p now;cases h;obtain⟨hk,rfl⟩:=aO ho;unfold dOK at hk;split at hk
  ·rename_i k g q f u ca;cases hv:bC s q with
   |none=>rw[hv]at hk;cases hk
   |some a=>
    obtain⟨b,ls⟩:=a;rw[hv]at hk;have hk:b=true:=hk;subst hk;exact lD [.agg [.str k,.str g,q,.int .i64 f,.int .i64 u,.bool ca],.int .i64 now] s [(true,(.bool (aS f u now),s))] _ (by simp only[iJ,hv]) rfl
  ·cases hk
 ·cases h
theorem rlinkGV_ok(args:List V)(s:St)(l:Qx)(o:V×St)(h:nE rOK cM args s=some l)(ho:aL l=some o):FnSat Qq 96 args s (Is o):=by
 unfold nE at h;split at h
 ·rename_i p;cases h;unfold rOK cM at ho;cases hv:gV s p with
  |none=>rw[hv]at ho;simp[aL]at ho
  |some a=>
   rw[hv]at ho;exact rD [p] s _ o (by simp only[ot,hv]) ho
 ·cases h
def RX1(OK DK KV:V→St→Bool)(DV:V→Int→St→Bool):Tab:=⟨addT noT 159 rofT,addS (addS noL 45 (uv DK DV)) 96 (nE OK KV),aT 9⟩
theorem RX1_ok:TabOk3 Qq (RX1 rOK dOK cM dDV):=⟨aR aJ rof_ok,bP (bP aK datesGV_ok) rlinkGV_ok,au 9⟩
theorem rmo_11(OK DK KV:V→St→Bool)(DV:V→Int→St→Bool)(u s m:Int)(d:List UInt8)(x:Value)(n:Nat)(cs:List V)(now:Int)(k0 g0:List UInt8)(n0:Nat)(f0 u0:Int)(c0:Bool)(B C D E:List V)(R:Qz):al Qq (RX1 OK DK KV DV) 9 10 (ah 9) 104 250 [1,3,4,8,9,10] [.lst x n cs,.int .i64 now,.ptr 0 0,.bool false,.slice 1 0 1 false 0 0,.int .i64 1] [.row [.int .u8 u,.int .u8 s,.int .u8 m,.str d] 72 4,.row [.str k0,.str g0,.nos 2 n0,.int .i64 f0,.int .i64 u0,.bool c0] 31 6,.ro true B,.ro true C,.ro true D,.ro true E] R=
  (
 R (.exit 0) [some (.lst x n cs),some (.int i64 now),some (.ptr 0 0),some (.bool false),some (.slice 1 0 1 false 0 0),some (.int i64 1)]
 [.row [.int u8 u,.int u8 s,.int u8 m,.str d] 72 4,.row [.str k0,.str g0,.nos 2 n0,.int i64 f0,.int i64 u0,
 .bool c0] 31 6,.ro true B,.ro true C,.ro true D,.ro true E]):=by kernel_rfl
def kO(u s m f0 u0 f1 u1:Int)(d k0 g0 k1 g1:List UInt8)(n0 n1:Nat)(c0 c1:Bool)(B C D E:List V):=[Blk.row [V.int u8 u,V.int u8 s,V.int u8 m,V.str d] 72 4,Blk.row [V.str k0,V.str g0,V.nos 2 n0,V.int i64 f0,V.int i64 u0,V.bool c0,V.str k1,V.str g1,V.nos 3 n1,V.int i64 f1,V.int i64 u1,V.bool c1] 31 6,Blk.ro true B,Blk.ro true C,Blk.ro true D,Blk.ro true E]
def zea_1(x:Value)(n:Nat)(cs:List V)(now:Int):=[some (V.lst x n cs),some (V.int i64 now),some (V.ptr 0 0),some (V.bool false),some (V.slice 1 0 2 false 0 0),some (V.int i64 2)]
theorem rmo_21(OK DK KV:V→St→Bool)(DV:V→Int→St→Bool)(u s m:Int)(d:List UInt8)(x:Value)(n:Nat)(cs:List V)(now:Int)(k0 g0:List UInt8)(n0:Nat)(f0 u0:Int)(c0:Bool)(k1 g1:List UInt8)(n1:Nat)(f1 u1:Int)(c1:Bool)(B C D E:List V)(R:Qz):al Qq (RX1 OK DK KV DV) 9 10 (ah 9) 104 250 [1,3,4,8,9,10] [.lst x n cs,.int .i64 now,.ptr 0 0,.bool false,.slice 1 0 2 false 0 0,.int .i64 1] [.row [.int .u8 u,.int .u8 s,.int .u8 m,.str d] 72 4,.row [.str k0,.str g0,.nos 2 n0,.int .i64 f0,.int .i64 u0,.bool c0,.str k1,.str g1,.nos 3 n1,.int .i64 f1,.int .i64 u1,.bool c1] 31 6,.ro true B,.ro true C,.ro true D,.ro true E] R=
 (
 bif true&&decide (1<(↑n:Int))then bif Nat.blt 1 cs.length then bif ar (cs.getD 1 (.bool false))then bif az (ab (cs.getD 1 (.bool false)))&&
 (u8B s&&u8B m)then bif !ofB u s m (d) (ab (cs.getD 1 (.bool false)))then R .normal (zea_1 x n cs now) (kO u s m f0 u0 f1 u1 d k0 g0 k1 g1 n0 n1
 c0 c1 B C D E)else bif OK (.slice 1 0 2 false 0 0) [.ro false [.int u8 u,.int u8 s,.int u8 m,.str d],.ro false [.str k0,
 .str g0,.nos 2 n0,.int i64 f0,.int i64 u0,.bool c0,.str k1,.str g1,.nos 3 n1,.int i64 f1,.int i64 u1,.bool
 c1],.ro false B,.ro false C,.ro false D,.ro false E]then bif !KV (.slice 1 0 2 false 0 0) [.ro false [.int u8 u,.int u8
 s,.int u8 m,.str d],.ro false [.str k0,.str g0,.nos 2 n0,.int i64 f0,.int i64 u0,.bool c0,.str k1,.str g1,.nos 3
 n1,.int i64 f1,.int i64 u1,.bool c1],.ro false B,.ro false C,.ro false D,.ro false E]then R .normal (zea_1 x n cs now)
 (kO u s m f0 u0 f1 u1 d k0 g0 k1 g1 n0 n1 c0 c1 B C D E)else bif DK (.agg [.str (k0),.str (g0),.nos 2 n0,.int i64 f0,.int i64 u0,
 .bool c0]) (kO u s m f0 u0 f1 u1 d k0 g0 k1 g1 n0 n1 c0 c1 B C D E)then bif DV (.agg [.str (k0),.str (g0),.nos 2 n0,.int i64 f0,.int
 i64 u0,.bool c0]) now (kO u s m f0 u0 f1 u1 d k0 g0 k1 g1 n0 n1 c0 c1 B C D E)then bif DK (.agg [.str (k1),.str (g1),.nos 3 n1,.int
 i64 f1,.int i64 u1,.bool c1]) (kO u s m f0 u0 f1 u1 d k0 g0 k1 g1 n0 n1 c0 c1 B C D E)then bif DV (.agg [.str (k1),.str (g1),.nos 3
 n1,.int i64 f1,.int i64 u1,.bool c1]) now (kO u s m f0 u0 f1 u1 d k0 g0 k1 g1 n0 n1 c0 c1 B C D E)then R .ret [some (.lst x n cs),
 some (.int i64 now),some (.ptr 0 0),some (.bool true),some (.slice 1 0 2 false 0 0),some (.int i64 1)] (kO u s m f0 u0 f1 u1 d k0 g0
 k1 g1 n0 n1 c0 c1 B C D E)else R .normal (zea_1 x n cs now) (kO u s m f0 u0 f1 u1 d k0 g0 k1 g1 n0 n1 c0 c1 B C D E)else False else R .normal (zea_1
 x n cs now) (kO u s m f0 u0 f1 u1 d k0 g0 k1 g1 n0 n1 c0 c1 B C D E)else False else False else False else False else False else False):=by kernel_rfl
theorem rmo_22(OK DK KV:V→St→Bool)(DV:V→Int→St→Bool)(u s m:Int)(d:List UInt8)(x:Value)(n:Nat)(cs:List V)(now:Int)(k0 g0:List UInt8)(n0:Nat)(f0 u0:Int)(c0:Bool)(k1 g1:List UInt8)(n1:Nat)(f1 u1:Int)(c1:Bool)(B C D E:List V)(R:Qz):al Qq (RX1 OK DK KV DV) 9 10 (ah 9) 104 250 [1,3,4,8,9,10] [.lst x n cs,.int .i64 now,.ptr 0 0,.bool false,.slice 1 0 2 false 0 0,.int .i64 2] [.row [.int .u8 u,.int .u8 s,.int .u8 m,.str d] 72 4,.row [.str k0,.str g0,.nos 2 n0,.int .i64 f0,.int .i64 u0,.bool c0,.str k1,.str g1,.nos 3 n1,.int .i64 f1,.int .i64 u1,.bool c1] 31 6,.ro true B,.ro true C,.ro true D,.ro true E] R=
  (
 R (.exit 0) [some (.lst x n cs),some (.int i64 now),some (.ptr 0 0),some (.bool false),some (.slice 1 0 2 false 0 0),some (.int i64 2)]
 [.row [.int u8 u,.int u8 s,.int u8 m,.str d] 72 4,.row [.str k0,.str g0,.nos 2 n0,.int i64 f0,.int i64 u0,
 .bool c0,.str k1,.str g1,.nos 3 n1,.int i64 f1,.int i64 u1,.bool c1] 31 6,.ro true B,.ro true C,.ro true D,.ro true E]):=by kernel_rfl
def kN(u s m f0 u0 f1 u1 f2 u2:Int)(d k0 g0 k1 g1 k2 g2:List UInt8)(n0 n1 n2:Nat)(c0 c1 c2:Bool)(B C D E:List V):=[Blk.row [V.int u8 u,V.int u8 s,V.int u8 m,V.str d] 72 4,Blk.row [V.str k0,V.str g0,V.nos 2 n0,V.int i64 f0,V.int i64 u0,V.bool c0,V.str k1,V.str g1,V.nos 3 n1,V.int i64 f1,V.int i64 u1,V.bool c1,V.str k2,V.str g2,V.nos 4 n2,V.int i64 f2,V.int i64 u2,V.bool c2] 31 6,Blk.ro true B,Blk.ro true C,Blk.ro true D,Blk.ro true E]
def zea_3(x:Value)(n:Nat)(cs:List V)(now:Int):=[some (V.lst x n cs),some (V.int i64 now),some (V.ptr 0 0),some (V.bool false),some (V.slice 1 0 3 false 0 0),some (V.int i64 2)]
theorem rmo_31(OK DK KV:V→St→Bool)(DV:V→Int→St→Bool)(u s m:Int)(d:List UInt8)(x:Value)(n:Nat)(cs:List V)(now:Int)(k0 g0:List UInt8)(n0:Nat)(f0 u0:Int)(c0:Bool)(k1 g1:List UInt8)(n1:Nat)(f1 u1:Int)(c1:Bool)(k2 g2:List UInt8)(n2:Nat)(f2 u2:Int)(c2:Bool)(B C D E:List V)(R:Qz):al Qq (RX1 OK DK KV DV) 9 10 (ah 9) 104 250 [1,3,4,8,9,10] [.lst x n cs,.int .i64 now,.ptr 0 0,.bool false,.slice 1 0 3 false 0 0,.int .i64 1] [.row [.int .u8 u,.int .u8 s,.int .u8 m,.str d] 72 4,.row [.str k0,.str g0,.nos 2 n0,.int .i64 f0,.int .i64 u0,.bool c0,.str k1,.str g1,.nos 3 n1,.int .i64 f1,.int .i64 u1,.bool c1,.str k2,.str g2,.nos 4 n2,.int .i64 f2,.int .i64 u2,.bool c2] 31 6,.ro true B,.ro true C,.ro true D,.ro true E] R=
 (
 bif true&&decide (1<(↑n:Int))then bif Nat.blt 1 cs.length then bif ar (cs.getD 1 (.bool false))then bif az (ab (cs.getD 1 (.bool false)))&&
 (u8B s&&u8B m)then bif !ofB u s m (d) (ab (cs.getD 1 (.bool false)))then R .normal (zea_3 x n cs now) (kN u s m f0 u0 f1 u1 f2 u2 d k0 g0 k1 g1
 k2 g2 n0 n1 n2 c0 c1 c2 B C D E)else bif OK (.slice 1 0 2 false 0 0) [.ro false [.int u8 u,.int u8 s,.int u8 m,.str d],
 .ro false [.str k0,.str g0,.nos 2 n0,.int i64 f0,.int i64 u0,.bool c0,.str k1,.str g1,.nos 3 n1,.int i64 f1,.int
 i64 u1,.bool c1,.str k2,.str g2,.nos 4 n2,.int i64 f2,.int i64 u2,.bool c2],.ro false B,.ro false C,.ro false
 D,.ro false E]then bif !KV (.slice 1 0 2 false 0 0) [.ro false [.int u8 u,.int u8 s,.int u8 m,.str d],.ro false
 [.str k0,.str g0,.nos 2 n0,.int i64 f0,.int i64 u0,.bool c0,.str k1,.str g1,.nos 3 n1,.int i64 f1,.int i64
 u1,.bool c1,.str k2,.str g2,.nos 4 n2,.int i64 f2,.int i64 u2,.bool c2],.ro false B,.ro false C,.ro false D,.ro
 false E]then R .normal (zea_3 x n cs now) (kN u s m f0 u0 f1 u1 f2 u2 d k0 g0 k1 g1 k2 g2 n0 n1 n2 c0 c1 c2 B C D E)else bif DK (.agg [.str (k0),
 .str (g0),.nos 2 n0,.int i64 f0,.int i64 u0,.bool c0]) (kN u s m f0 u0 f1 u1 f2 u2 d k0 g0 k1 g1 k2 g2 n0 n1 n2 c0 c1 c2 B C D E)
 then bif DV (.agg [.str (k0),.str (g0),.nos 2 n0,.int i64 f0,.int i64 u0,.bool c0]) now (kN u s m f0 u0 f1 u1 f2 u2 d k0 g0 k1 g1
 k2 g2 n0 n1 n2 c0 c1 c2 B C D E)then bif DK (.agg [.str (k1),.str (g1),.nos 3 n1,.int i64 f1,.int i64 u1,.bool c1]) (kN u s m f0
 u0 f1 u1 f2 u2 d k0 g0 k1 g1 k2 g2 n0 n1 n2 c0 c1 c2 B C D E)then bif DV (.agg [.str (k1),.str (g1),.nos 3 n1,.int i64 f1,.int i64 u1,
 .bool c1]) now (kN u s m f0 u0 f1 u1 f2 u2 d k0 g0 k1 g1 k2 g2 n0 n1 n2 c0 c1 c2 B C D E)then R .ret [some (.lst x n cs),some (.int i64 now),
 some (.ptr 0 0),some (.bool true),some (.slice 1 0 3 false 0 0),some (.int i64 1)] (kN u s m f0 u0 f1 u1 f2 u2 d k0 g0 k1 g1 k2 g2 n0 n1 n2 c0
 c1 c2 B C D E)else R .normal (zea_3 x n cs now) (kN u s m f0 u0 f1 u1 f2 u2 d k0 g0 k1 g1 k2 g2 n0 n1 n2 c0 c1 c2 B C D E)else False else R .normal
 (zea_3 x n cs now) (kN u s m f0 u0 f1 u1 f2 u2 d k0 g0 k1 g1 k2 g2 n0 n1 n2 c0 c1 c2 B C D E)else False else False else False else False else False else
 False):=by kernel_rfl
def iP(u s m f0 u0 f1 u1 f2 u2:Int)(d k0 g0 k1 g1 k2 g2:List UInt8)(n0 n1 n2:Nat)(c0 c1 c2:Bool)(B C D E:List V):=[Blk.row [V.int u8 u,V.int u8 s,V.int u8 m,V.str d] 72 4,Blk.row [V.str k0,V.str g0,V.nos 2 n0,V.int i64 f0,V.int i64 u0,V.bool c0,V.str k1,V.str g1,V.nos 3 n1,V.int i64 f1,V.int i64 u1,V.bool c1,V.str k2,V.str g2,V.nos 4 n2,V.int i64 f2,V.int i64 u2,V.bool c2] 31 6,Blk.ro true B,Blk.ro true C,Blk.ro true D,Blk.ro true E]
def rd(x:Value)(n:Nat)(cs:List V)(now:Int):=[some (V.lst x n cs),some (V.int i64 now),some (V.ptr 0 0),some (V.bool false),some (V.slice 1 0 3 false 0 0),some (V.int i64 3)]
theorem rmo_32(OK DK KV:V→St→Bool)(DV:V→Int→St→Bool)(u s m:Int)(d:List UInt8)(x:Value)(n:Nat)(cs:List V)(now:Int)(k0 g0:List UInt8)(n0:Nat)(f0 u0:Int)(c0:Bool)(k1 g1:List UInt8)(n1:Nat)(f1 u1:Int)(c1:Bool)(k2 g2:List UInt8)(n2:Nat)(f2 u2:Int)(c2:Bool)(B C D E:List V)(R:Qz):al Qq (RX1 OK DK KV DV) 9 10 (ah 9) 104 250 [1,3,4,8,9,10] [.lst x n cs,.int .i64 now,.ptr 0 0,.bool false,.slice 1 0 3 false 0 0,.int .i64 2] [.row [.int .u8 u,.int .u8 s,.int .u8 m,.str d] 72 4,.row [.str k0,.str g0,.nos 2 n0,.int .i64 f0,.int .i64 u0,.bool c0,.str k1,.str g1,.nos 3 n1,.int .i64 f1,.int .i64 u1,.bool c1,.str k2,.str g2,.nos 4 n2,.int .i64 f2,.int .i64 u2,.bool c2] 31 6,.ro true B,.ro true C,.ro true D,.ro true E] R=
 (
 bif true&&decide (2<(↑n:Int))then bif Nat.blt 2 cs.length then bif ar (cs.getD 2 (.bool false))then bif az (ab (cs.getD 2 (.bool false)))&&
 (u8B s&&u8B m)then bif !ofB u s m (d) (ab (cs.getD 2 (.bool false)))then R .normal (rd x n cs now) (iP u s m f0 u0 f1 u1 f2 u2 d k0 g0 k1 g1
 k2 g2 n0 n1 n2 c0 c1 c2 B C D E)else bif OK (.slice 1 0 3 false 0 0) [.ro false [.int u8 u,.int u8 s,.int u8 m,.str d],
 .ro false [.str k0,.str g0,.nos 2 n0,.int i64 f0,.int i64 u0,.bool c0,.str k1,.str g1,.nos 3 n1,.int i64 f1,.int
 i64 u1,.bool c1,.str k2,.str g2,.nos 4 n2,.int i64 f2,.int i64 u2,.bool c2],.ro false B,.ro false C,.ro false
 D,.ro false E]then bif !KV (.slice 1 0 3 false 0 0) [.ro false [.int u8 u,.int u8 s,.int u8 m,.str d],.ro false
 [.str k0,.str g0,.nos 2 n0,.int i64 f0,.int i64 u0,.bool c0,.str k1,.str g1,.nos 3 n1,.int i64 f1,.int i64
 u1,.bool c1,.str k2,.str g2,.nos 4 n2,.int i64 f2,.int i64 u2,.bool c2],.ro false B,.ro false C,.ro false D,.ro
 false E]then R .normal (rd x n cs now) (iP u s m f0 u0 f1 u1 f2 u2 d k0 g0 k1 g1 k2 g2 n0 n1 n2 c0 c1 c2 B C D E)else bif DK (.agg [.str (k0),
 .str (g0),.nos 2 n0,.int i64 f0,.int i64 u0,.bool c0]) (iP u s m f0 u0 f1 u1 f2 u2 d k0 g0 k1 g1 k2 g2 n0 n1 n2 c0 c1 c2 B C D E)
 then bif DV (.agg [.str (k0),.str (g0),.nos 2 n0,.int i64 f0,.int i64 u0,.bool c0]) now (iP u s m f0 u0 f1 u1 f2 u2 d k0 g0 k1 g1
 k2 g2 n0 n1 n2 c0 c1 c2 B C D E)then bif DK (.agg [.str (k1),.str (g1),.nos 3 n1,.int i64 f1,.int i64 u1,.bool c1]) (iP u s m f0
 u0 f1 u1 f2 u2 d k0 g0 k1 g1 k2 g2 n0 n1 n2 c0 c1 c2 B C D E)then bif DV (.agg [.str (k1),.str (g1),.nos 3 n1,.int i64 f1,.int i64 u1,
 .bool c1]) now (iP u s m f0 u0 f1 u1 f2 u2 d k0 g0 k1 g1 k2 g2 n0 n1 n2 c0 c1 c2 B C D E)then bif DK (.agg [.str (k2),.str (g2),.nos 4 n2,.int
 i64 f2,.int i64 u2,.bool c2]) (iP u s m f0 u0 f1 u1 f2 u2 d k0 g0 k1 g1 k2 g2 n0 n1 n2 c0 c1 c2 B C D E)then bif DV (.agg [.str (k2),
 .str (g2),.nos 4 n2,.int i64 f2,.int i64 u2,.bool c2]) now (iP u s m f0 u0 f1 u1 f2 u2 d k0 g0 k1 g1 k2 g2 n0 n1 n2 c0 c1 c2 B C D E)
 then R .ret [some (.lst x n cs),some (.int i64 now),some (.ptr 0 0),some (.bool true),some (.slice 1 0 3 false 0 0),some (.int i64
 2)] (iP u s m f0 u0 f1 u1 f2 u2 d k0 g0 k1 g1 k2 g2 n0 n1 n2 c0 c1 c2 B C D E)else R .normal (rd x n cs now) (iP u s m f0 u0 f1 u1 f2 u2 d k0 g0 k1
 g1 k2 g2 n0 n1 n2 c0 c1 c2 B C D E)else False else R .normal (rd x n cs now) (iP u s m f0 u0 f1 u1 f2 u2 d k0 g0 k1 g1 k2 g2 n0 n1 n2 c0 c1 c2 B C D
 E)else False else R .normal (rd x n cs now) (iP u s m f0 u0 f1 u1 f2 u2 d k0 g0 k1 g1 k2 g2 n0 n1 n2 c0 c1 c2 B C D E)else False else False else
 False else False else False else False):=by kernel_rfl
theorem rmo_33(OK DK KV:V→St→Bool)(DV:V→Int→St→Bool)(u s m:Int)(d:List UInt8)(x:Value)(n:Nat)(cs:List V)(now:Int)(k0 g0:List UInt8)(n0:Nat)(f0 u0:Int)(c0:Bool)(k1 g1:List UInt8)(n1:Nat)(f1 u1:Int)(c1:Bool)(k2 g2:List UInt8)(n2:Nat)(f2 u2:Int)(c2:Bool)(B C D E:List V)(R:Qz):al Qq (RX1 OK DK KV DV) 9 10 (ah 9) 104 250 [1,3,4,8,9,10] [.lst x n cs,.int .i64 now,.ptr 0 0,.bool false,.slice 1 0 3 false 0 0,.int .i64 3] [.row [.int .u8 u,.int .u8 s,.int .u8 m,.str d] 72 4,.row [.str k0,.str g0,.nos 2 n0,.int .i64 f0,.int .i64 u0,.bool c0,.str k1,.str g1,.nos 3 n1,.int .i64 f1,.int .i64 u1,.bool c1,.str k2,.str g2,.nos 4 n2,.int .i64 f2,.int .i64 u2,.bool c2] 31 6,.ro true B,.ro true C,.ro true D,.ro true E] R=
  (
 R (.exit 0) [some (.lst x n cs),some (.int i64 now),some (.ptr 0 0),some (.bool false),some (.slice 1 0 3 false 0 0),some (.int i64 3)]
 [.row [.int u8 u,.int u8 s,.int u8 m,.str d] 72 4,.row [.str k0,.str g0,.nos 2 n0,.int i64 f0,.int i64 u0,
 .bool c0,.str k1,.str g1,.nos 3 n1,.int i64 f1,.int i64 u1,.bool c1,.str k2,.str g2,.nos 4 n2,.int i64 f2,.int i64
 u2,.bool c2] 31 6,.ro true B,.ro true C,.ro true D,.ro true E]):=by kernel_rfl
def zea_8(k0 g0 k1 g1 k2 g2 k3 g3:List UInt8)(n0 n1 n2 n3:Nat)(f0 u0 f1 u1 f2 u2 f3 u3:Int)(c0 c1 c2 c3:Bool):=[V.str k0,V.str g0,V.nos 2 n0,V.int i64 f0,V.int i64 u0,V.bool c0,V.str k1,V.str g1,V.nos 3 n1,V.int i64 f1,V.int i64 u1,V.bool c1,V.str k2,V.str g2,V.nos 4 n2,V.int i64 f2,V.int i64 u2,V.bool c2,V.str k3,V.str g3,V.nos 5 n3,V.int i64 f3,V.int i64 u3,V.bool c3]
def kM(u s m f0 u0 f1 u1 f2 u2 f3 u3:Int)(d k0 g0 k1 g1 k2 g2 k3 g3:List UInt8)(n0 n1 n2 n3:Nat)(c0 c1 c2 c3:Bool)(B C D E:List V):=[Blk.row [V.int u8 u,V.int u8 s,V.int u8 m,V.str d] 72 4,Blk.row (zea_8 k0 g0 k1 g1 k2 g2 k3 g3 n0 n1 n2 n3 f0 u0 f1 u1 f2 u2 f3 u3 c0 c1 c2 c3) 31 6,Blk.ro true B,Blk.ro true C,Blk.ro true D,Blk.ro true E]
def zea_7(x:Value)(n:Nat)(cs:List V)(now:Int):=[some (V.lst x n cs),some (V.int i64 now),some (V.ptr 0 0),some (V.bool false),some (V.slice 1 0 4 false 0 0),some (V.int i64 2)]
theorem rmo_41(OK DK KV:V→St→Bool)(DV:V→Int→St→Bool)(u s m:Int)(d:List UInt8)(x:Value)(n:Nat)(cs:List V)(now:Int)(k0 g0:List UInt8)(n0:Nat)(f0 u0:Int)(c0:Bool)(k1 g1:List UInt8)(n1:Nat)(f1 u1:Int)(c1:Bool)(k2 g2:List UInt8)(n2:Nat)(f2 u2:Int)(c2:Bool)(k3 g3:List UInt8)(n3:Nat)(f3 u3:Int)(c3:Bool)(B C D E:List V)(R:Qz):al Qq (RX1 OK DK KV DV) 9 10 (ah 9) 104 250 [1,3,4,8,9,10] [.lst x n cs,.int .i64 now,.ptr 0 0,.bool false,.slice 1 0 4 false 0 0,.int .i64 1] [.row [.int .u8 u,.int .u8 s,.int .u8 m,.str d] 72 4,.row [.str k0,.str g0,.nos 2 n0,.int .i64 f0,.int .i64 u0,.bool c0,.str k1,.str g1,.nos 3 n1,.int .i64 f1,.int .i64 u1,.bool c1,.str k2,.str g2,.nos 4 n2,.int .i64 f2,.int .i64 u2,.bool c2,.str k3,.str g3,.nos 5 n3,.int .i64 f3,.int .i64 u3,.bool c3] 31 6,.ro true B,.ro true C,.ro true D,.ro true E] R=
 (
 bif true&&decide (1<(↑n:Int))then bif Nat.blt 1 cs.length then bif ar (cs.getD 1 (.bool false))then bif az (ab (cs.getD 1 (.bool false)))&&
 (u8B s&&u8B m)then bif !ofB u s m (d) (ab (cs.getD 1 (.bool false)))then R .normal (zea_7 x n cs now) (kM u s m f0 u0 f1 u1 f2 u2 f3 u3 d k0 g0
 k1 g1 k2 g2 k3 g3 n0 n1 n2 n3 c0 c1 c2 c3 B C D E)else bif OK (.slice 1 0 2 false 0 0) [.ro false [.int u8 u,.int u8 s,.int u8
 m,.str d],.ro false (zea_8 k0 g0 k1 g1 k2 g2 k3 g3 n0 n1 n2 n3 f0 u0 f1 u1 f2 u2 f3 u3 c0 c1 c2 c3),.ro false B,.ro false C,.ro false D,.ro
 false E]then bif !KV (.slice 1 0 2 false 0 0) [.ro false [.int u8 u,.int u8 s,.int u8 m,.str d],.ro false (zea_8 k0 g0 k1
 g1 k2 g2 k3 g3 n0 n1 n2 n3 f0 u0 f1 u1 f2 u2 f3 u3 c0 c1 c2 c3),.ro false B,.ro false C,.ro false D,.ro false E]then R .normal (zea_7 x n cs
 now) (kM u s m f0 u0 f1 u1 f2 u2 f3 u3 d k0 g0 k1 g1 k2 g2 k3 g3 n0 n1 n2 n3 c0 c1 c2 c3 B C D E)else bif DK (.agg [.str (k0),.str (g0),.nos 2 n0,
 .int i64 f0,.int i64 u0,.bool c0]) (kM u s m f0 u0 f1 u1 f2 u2 f3 u3 d k0 g0 k1 g1 k2 g2 k3 g3 n0 n1 n2 n3 c0 c1 c2 c3 B C D E)then bif
 DV (.agg [.str (k0),.str (g0),.nos 2 n0,.int i64 f0,.int i64 u0,.bool c0]) now (kM u s m f0 u0 f1 u1 f2 u2 f3 u3 d k0 g0 k1 g1 k2
 g2 k3 g3 n0 n1 n2 n3 c0 c1 c2 c3 B C D E)then bif DK (.agg [.str (k1),.str (g1),.nos 3 n1,.int i64 f1,.int i64 u1,.bool c1]) (kM
 u s m f0 u0 f1 u1 f2 u2 f3 u3 d k0 g0 k1 g1 k2 g2 k3 g3 n0 n1 n2 n3 c0 c1 c2 c3 B C D E)then bif DV (.agg [.str (k1),.str (g1),.nos 3 n1,.int
 i64 f1,.int i64 u1,.bool c1]) now (kM u s m f0 u0 f1 u1 f2 u2 f3 u3 d k0 g0 k1 g1 k2 g2 k3 g3 n0 n1 n2 n3 c0 c1 c2 c3 B C D E)then R
 .ret [some (.lst x n cs),some (.int i64 now),some (.ptr 0 0),some (.bool true),some (.slice 1 0 4 false 0 0),some (.int i64 1)]
 (kM u s m f0 u0 f1 u1 f2 u2 f3 u3 d k0 g0 k1 g1 k2 g2 k3 g3 n0 n1 n2 n3 c0 c1 c2 c3 B C D E)else R .normal (zea_7 x n cs now) (kM u s m f0 u0 f1 u1 f2
 u2 f3 u3 d k0 g0 k1 g1 k2 g2 k3 g3 n0 n1 n2 n3 c0 c1 c2 c3 B C D E)else False else R .normal (zea_7 x n cs now) (kM u s m f0 u0 f1 u1 f2 u2 f3 u3 d k0 g0
 k1 g1 k2 g2 k3 g3 n0 n1 n2 n3 c0 c1 c2 c3 B C D E)else False else False else False else False else False else False):=by kernel_rfl
def s4(k0 g0 k1 g1 k2 g2 k3 g3:List UInt8)(n0 n1 n2 n3:Nat)(f0 u0 f1 u1 f2 u2 f3 u3:Int)(c0 c1 c2 c3:Bool):=[V.str k0,V.str g0,V.nos 2 n0,V.int i64 f0,V.int i64 u0,V.bool c0,V.str k1,V.str g1,V.nos 3 n1,V.int i64 f1,V.int i64 u1,V.bool c1,V.str k2,V.str g2,V.nos 4 n2,V.int i64 f2,V.int i64 u2,V.bool c2,V.str k3,V.str g3,V.nos 5 n3,V.int i64 f3,V.int i64 u3,V.bool c3]
def iO(u s m f0 u0 f1 u1 f2 u2 f3 u3:Int)(d k0 g0 k1 g1 k2 g2 k3 g3:List UInt8)(n0 n1 n2 n3:Nat)(c0 c1 c2 c3:Bool)(B C D E:List V):=[Blk.row [V.int u8 u,V.int u8 s,V.int u8 m,V.str d] 72 4,Blk.row (s4 k0 g0 k1 g1 k2 g2 k3 g3 n0 n1 n2 n3 f0 u0 f1 u1 f2 u2 f3 u3 c0 c1 c2 c3) 31 6,Blk.ro true B,Blk.ro true C,Blk.ro true D,Blk.ro true E]
def ne(x:Value)(n:Nat)(cs:List V)(now:Int):=[some (V.lst x n cs),some (V.int i64 now),some (V.ptr 0 0),some (V.bool false),some (V.slice 1 0 4 false 0 0),some (V.int i64 3)]
theorem rmo_42(OK DK KV:V→St→Bool)(DV:V→Int→St→Bool)(u s m:Int)(d:List UInt8)(x:Value)(n:Nat)(cs:List V)(now:Int)(k0 g0:List UInt8)(n0:Nat)(f0 u0:Int)(c0:Bool)(k1 g1:List UInt8)(n1:Nat)(f1 u1:Int)(c1:Bool)(k2 g2:List UInt8)(n2:Nat)(f2 u2:Int)(c2:Bool)(k3 g3:List UInt8)(n3:Nat)(f3 u3:Int)(c3:Bool)(B C D E:List V)(R:Qz):al Qq (RX1 OK DK KV DV) 9 10 (ah 9) 104 250 [1,3,4,8,9,10] [.lst x n cs,.int .i64 now,.ptr 0 0,.bool false,.slice 1 0 4 false 0 0,.int .i64 2] [.row [.int .u8 u,.int .u8 s,.int .u8 m,.str d] 72 4,.row [.str k0,.str g0,.nos 2 n0,.int .i64 f0,.int .i64 u0,.bool c0,.str k1,.str g1,.nos 3 n1,.int .i64 f1,.int .i64 u1,.bool c1,.str k2,.str g2,.nos 4 n2,.int .i64 f2,.int .i64 u2,.bool c2,.str k3,.str g3,.nos 5 n3,.int .i64 f3,.int .i64 u3,.bool c3] 31 6,.ro true B,.ro true C,.ro true D,.ro true E] R=
 (
 bif true&&decide (2<(↑n:Int))then bif Nat.blt 2 cs.length then bif ar (cs.getD 2 (.bool false))then bif az (ab (cs.getD 2 (.bool false)))&&
 (u8B s&&u8B m)then bif !ofB u s m (d) (ab (cs.getD 2 (.bool false)))then R .normal (ne x n cs now) (iO u s m f0 u0 f1 u1 f2 u2 f3 u3 d k0 g0
 k1 g1 k2 g2 k3 g3 n0 n1 n2 n3 c0 c1 c2 c3 B C D E)else bif OK (.slice 1 0 3 false 0 0) [.ro false [.int u8 u,.int u8 s,.int u8
 m,.str d],.ro false (s4 k0 g0 k1 g1 k2 g2 k3 g3 n0 n1 n2 n3 f0 u0 f1 u1 f2 u2 f3 u3 c0 c1 c2 c3),.ro false B,.ro false C,.ro false D,
 .ro false E]then bif !KV (.slice 1 0 3 false 0 0) [.ro false [.int u8 u,.int u8 s,.int u8 m,.str d],.ro false (s4
 k0 g0 k1 g1 k2 g2 k3 g3 n0 n1 n2 n3 f0 u0 f1 u1 f2 u2 f3 u3 c0 c1 c2 c3),.ro false B,.ro false C,.ro false D,.ro false E]then R .normal
 (ne x n cs now) (iO u s m f0 u0 f1 u1 f2 u2 f3 u3 d k0 g0 k1 g1 k2 g2 k3 g3 n0 n1 n2 n3 c0 c1 c2 c3 B C D E)else bif DK (.agg [.str (k0),.str (g0),
 .nos 2 n0,.int i64 f0,.int i64 u0,.bool c0]) (iO u s m f0 u0 f1 u1 f2 u2 f3 u3 d k0 g0 k1 g1 k2 g2 k3 g3 n0 n1 n2 n3 c0 c1 c2 c3 B C D
 E)then bif DV (.agg [.str (k0),.str (g0),.nos 2 n0,.int i64 f0,.int i64 u0,.bool c0]) now (iO u s m f0 u0 f1 u1 f2 u2 f3 u3 d k0
 g0 k1 g1 k2 g2 k3 g3 n0 n1 n2 n3 c0 c1 c2 c3 B C D E)then bif DK (.agg [.str (k1),.str (g1),.nos 3 n1,.int i64 f1,.int i64 u1,.bool
 c1]) (iO u s m f0 u0 f1 u1 f2 u2 f3 u3 d k0 g0 k1 g1 k2 g2 k3 g3 n0 n1 n2 n3 c0 c1 c2 c3 B C D E)then bif DV (.agg [.str (k1),.str (g1),.nos 3 n1,
 .int i64 f1,.int i64 u1,.bool c1]) now (iO u s m f0 u0 f1 u1 f2 u2 f3 u3 d k0 g0 k1 g1 k2 g2 k3 g3 n0 n1 n2 n3 c0 c1 c2 c3 B C D E)then
 bif DK (.agg [.str (k2),.str (g2),.nos 4 n2,.int i64 f2,.int i64 u2,.bool c2]) (iO u s m f0 u0 f1 u1 f2 u2 f3 u3 d k0 g0 k1 g1 k2
 g2 k3 g3 n0 n1 n2 n3 c0 c1 c2 c3 B C D E)then bif DV (.agg [.str (k2),.str (g2),.nos 4 n2,.int i64 f2,.int i64 u2,.bool c2]) now
 (iO u s m f0 u0 f1 u1 f2 u2 f3 u3 d k0 g0 k1 g1 k2 g2 k3 g3 n0 n1 n2 n3 c0 c1 c2 c3 B C D E)then R .ret [some (.lst x n cs),some (.int i64
 now),some (.ptr 0 0),some (.bool true),some (.slice 1 0 4 false 0 0),some (.int i64 2)] (iO u s m f0 u0 f1 u1 f2 u2 f3 u3 d k0 g0 k1 g1 k2 g2
 k3 g3 n0 n1 n2 n3 c0 c1 c2 c3 B C D E)else R .normal (ne x n cs now) (iO u s m f0 u0 f1 u1 f2 u2 f3 u3 d k0 g0 k1 g1 k2 g2 k3 g3 n0 n1 n2 n3 c0 c1 c2
 c3 B C D E)else False else R .normal (ne x n cs now) (iO u s m f0 u0 f1 u1 f2 u2 f3 u3 d k0 g0 k1 g1 k2 g2 k3 g3 n0 n1 n2 n3 c0 c1 c2 c3 B C D E)
 else False else R .normal (ne x n cs now) (iO u s m f0 u0 f1 u1 f2 u2 f3 u3 d k0 g0 k1 g1 k2 g2 k3 g3 n0 n1 n2 n3 c0 c1 c2 c3 B C D E)else False else
 False else False else False else False else False):=by kernel_rfl
def sZ(k0 g0 k1 g1 k2 g2 k3 g3:List UInt8)(n0 n1 n2 n3:Nat)(f0 u0 f1 u1 f2 u2 f3 u3:Int)(c0 c1 c2 c3:Bool):=[V.str k0,V.str g0,V.nos 2 n0,V.int i64 f0,V.int i64 u0,V.bool c0,V.str k1,V.str g1,V.nos 3 n1,V.int i64 f1,V.int i64 u1,V.bool c1,V.str k2,V.str g2,V.nos 4 n2,V.int i64 f2,V.int i64 u2,V.bool c2,V.str k3,V.str g3,V.nos 5 n3,V.int i64 f3,V.int i64 u3,V.bool c3]
def e8(u s m f0 u0 f1 u1 f2 u2 f3 u3:Int)(d k0 g0 k1 g1 k2 g2 k3 g3:List UInt8)(n0 n1 n2 n3:Nat)(c0 c1 c2 c3:Bool)(B C D E:List V):=[Blk.row [V.int u8 u,V.int u8 s,V.int u8 m,V.str d] 72 4,Blk.row (sZ k0 g0 k1 g1 k2 g2 k3 g3 n0 n1 n2 n3 f0 u0 f1 u1 f2 u2 f3 u3 c0 c1 c2 c3) 31 6,Blk.ro true B,Blk.ro true C,Blk.ro true D,Blk.ro true E]
def li(x:Value)(n:Nat)(cs:List V)(now:Int):=[some (V.lst x n cs),some (V.int i64 now),some (V.ptr 0 0),some (V.bool false),some (V.slice 1 0 4 false 0 0),some (V.int i64 4)]
theorem rmo_43(OK DK KV:V→St→Bool)(DV:V→Int→St→Bool)(u s m:Int)(d:List UInt8)(x:Value)(n:Nat)(cs:List V)(now:Int)(k0 g0:List UInt8)(n0:Nat)(f0 u0:Int)(c0:Bool)(k1 g1:List UInt8)(n1:Nat)(f1 u1:Int)(c1:Bool)(k2 g2:List UInt8)(n2:Nat)(f2 u2:Int)(c2:Bool)(k3 g3:List UInt8)(n3:Nat)(f3 u3:Int)(c3:Bool)(B C D E:List V)(R:Qz):al Qq (RX1 OK DK KV DV) 9 10 (ah 9) 104 250 [1,3,4,8,9,10] [.lst x n cs,.int .i64 now,.ptr 0 0,.bool false,.slice 1 0 4 false 0 0,.int .i64 3] [.row [.int .u8 u,.int .u8 s,.int .u8 m,.str d] 72 4,.row [.str k0,.str g0,.nos 2 n0,.int .i64 f0,.int .i64 u0,.bool c0,.str k1,.str g1,.nos 3 n1,.int .i64 f1,.int .i64 u1,.bool c1,.str k2,.str g2,.nos 4 n2,.int .i64 f2,.int .i64 u2,.bool c2,.str k3,.str g3,.nos 5 n3,.int .i64 f3,.int .i64 u3,.bool c3] 31 6,.ro true B,.ro true C,.ro true D,.ro true E] R=
 (
 bif true&&decide (3<(↑n:Int))then bif Nat.blt 3 cs.length then bif ar (cs.getD 3 (.bool false))then bif az (ab (cs.getD 3 (.bool false)))&&
 (u8B s&&u8B m)then bif !ofB u s m (d) (ab (cs.getD 3 (.bool false)))then R .normal (li x n cs now) (e8 u s m f0 u0 f1 u1 f2 u2 f3 u3 d k0 g0
 k1 g1 k2 g2 k3 g3 n0 n1 n2 n3 c0 c1 c2 c3 B C D E)else bif OK (.slice 1 0 4 false 0 0) [.ro false [.int u8 u,.int u8 s,.int u8
 m,.str d],.ro false (sZ k0 g0 k1 g1 k2 g2 k3 g3 n0 n1 n2 n3 f0 u0 f1 u1 f2 u2 f3 u3 c0 c1 c2 c3),.ro false B,.ro false C,.ro false D,
 .ro false E]then bif !KV (.slice 1 0 4 false 0 0) [.ro false [.int u8 u,.int u8 s,.int u8 m,.str d],.ro false (sZ
 k0 g0 k1 g1 k2 g2 k3 g3 n0 n1 n2 n3 f0 u0 f1 u1 f2 u2 f3 u3 c0 c1 c2 c3),.ro false B,.ro false C,.ro false D,.ro false E]then R .normal
 (li x n cs now) (e8 u s m f0 u0 f1 u1 f2 u2 f3 u3 d k0 g0 k1 g1 k2 g2 k3 g3 n0 n1 n2 n3 c0 c1 c2 c3 B C D E)else bif DK (.agg [.str (k0),.str (g0),
 .nos 2 n0,.int i64 f0,.int i64 u0,.bool c0]) (e8 u s m f0 u0 f1 u1 f2 u2 f3 u3 d k0 g0 k1 g1 k2 g2 k3 g3 n0 n1 n2 n3 c0 c1 c2 c3 B C D
 E)then bif DV (.agg [.str (k0),.str (g0),.nos 2 n0,.int i64 f0,.int i64 u0,.bool c0]) now (e8 u s m f0 u0 f1 u1 f2 u2 f3 u3 d k0
 g0 k1 g1 k2 g2 k3 g3 n0 n1 n2 n3 c0 c1 c2 c3 B C D E)then bif DK (.agg [.str (k1),.str (g1),.nos 3 n1,.int i64 f1,.int i64 u1,.bool
 c1]) (e8 u s m f0 u0 f1 u1 f2 u2 f3 u3 d k0 g0 k1 g1 k2 g2 k3 g3 n0 n1 n2 n3 c0 c1 c2 c3 B C D E)then bif DV (.agg [.str (k1),.str (g1),.nos 3 n1,
 .int i64 f1,.int i64 u1,.bool c1]) now (e8 u s m f0 u0 f1 u1 f2 u2 f3 u3 d k0 g0 k1 g1 k2 g2 k3 g3 n0 n1 n2 n3 c0 c1 c2 c3 B C D E)then
 bif DK (.agg [.str (k2),.str (g2),.nos 4 n2,.int i64 f2,.int i64 u2,.bool c2]) (e8 u s m f0 u0 f1 u1 f2 u2 f3 u3 d k0 g0 k1 g1 k2
 g2 k3 g3 n0 n1 n2 n3 c0 c1 c2 c3 B C D E)then bif DV (.agg [.str (k2),.str (g2),.nos 4 n2,.int i64 f2,.int i64 u2,.bool c2]) now
 (e8 u s m f0 u0 f1 u1 f2 u2 f3 u3 d k0 g0 k1 g1 k2 g2 k3 g3 n0 n1 n2 n3 c0 c1 c2 c3 B C D E)then bif DK (.agg [.str (k3),.str (g3),.nos 5 n3,.int
 i64 f3,.int i64 u3,.bool c3]) (e8 u s m f0 u0 f1 u1 f2 u2 f3 u3 d k0 g0 k1 g1 k2 g2 k3 g3 n0 n1 n2 n3 c0 c1 c2 c3 B C D E)then bif DV
 (.agg [.str (k3),.str (g3),.nos 5 n3,.int i64 f3,.int i64 u3,.bool c3]) now (e8 u s m f0 u0 f1 u1 f2 u2 f3 u3 d k0 g0 k1 g1 k2 g2
 k3 g3 n0 n1 n2 n3 c0 c1 c2 c3 B C D E)then R .ret [some (.lst x n cs),some (.int i64 now),some (.ptr 0 0),some (.bool true),some (.slice 1
 0 4 false 0 0),some (.int i64 3)] (e8 u s m f0 u0 f1 u1 f2 u2 f3 u3 d k0 g0 k1 g1 k2 g2 k3 g3 n0 n1 n2 n3 c0 c1 c2 c3 B C D E)else R .normal
 (li x n cs now) (e8 u s m f0 u0 f1 u1 f2 u2 f3 u3 d k0 g0 k1 g1 k2 g2 k3 g3 n0 n1 n2 n3 c0 c1 c2 c3 B C D E)else False else R .normal (li x n cs
 now) (e8 u s m f0 u0 f1 u1 f2 u2 f3 u3 d k0 g0 k1 g1 k2 g2 k3 g3 n0 n1 n2 n3 c0 c1 c2 c3 B C D E)else False else R .normal (li x n cs now) (e8 u
 s m f0 u0 f1 u1 f2 u2 f3 u3 d k0 g0 k1 g1 k2 g2 k3 g3 n0 n1 n2 n3 c0 c1 c2 c3 B C D E)else False else R .normal (li x n cs now) (e8 u s m f0 u0 f1
 u1 f2 u2 f3 u3 d k0 g0 k1 g1 k2 g2 k3 g3 n0 n1 n2 n3 c0 c1 c2 c3 B C D E)else False else False else False else False else False else False):=by kernel_rfl
theorem rmo_44(OK DK KV:V→St→Bool)(DV:V→Int→St→Bool)(u s m:Int)(d:List UInt8)(x:Value)(n:Nat)(cs:List V)(now:Int)(k0 g0:List UInt8)(n0:Nat)(f0 u0:Int)(c0:Bool)(k1 g1:List UInt8)(n1:Nat)(f1 u1:Int)(c1:Bool)(k2 g2:List UInt8)(n2:Nat)(f2 u2:Int)(c2:Bool)(k3 g3:List UInt8)(n3:Nat)(f3 u3:Int)(c3:Bool)(B C D E:List V)(R:Qz):al Qq (RX1 OK DK KV DV) 9 10 (ah 9) 104 250 [1,3,4,8,9,10] [.lst x n cs,.int .i64 now,.ptr 0 0,.bool false,.slice 1 0 4 false 0 0,.int .i64 4] [.row [.int .u8 u,.int .u8 s,.int .u8 m,.str d] 72 4,.row [.str k0,.str g0,.nos 2 n0,.int .i64 f0,.int .i64 u0,.bool c0,.str k1,.str g1,.nos 3 n1,.int .i64 f1,.int .i64 u1,.bool c1,.str k2,.str g2,.nos 4 n2,.int .i64 f2,.int .i64 u2,.bool c2,.str k3,.str g3,.nos 5 n3,.int .i64 f3,.int .i64 u3,.bool c3] 31 6,.ro true B,.ro true C,.ro true D,.ro true E] R=
  (
 R (.exit 0) [some (.lst x n cs),some (.int i64 now),some (.ptr 0 0),some (.bool false),some (.slice 1 0 4 false 0 0),some (.int i64 4)]
 [.row [.int u8 u,.int u8 s,.int u8 m,.str d] 72 4,.row [.str k0,.str g0,.nos 2 n0,.int i64 f0,.int i64 u0,
 .bool c0,.str k1,.str g1,.nos 3 n1,.int i64 f1,.int i64 u1,.bool c1,.str k2,.str g2,.nos 4 n2,.int i64 f2,.int i64
 u2,.bool c2,.str k3,.str g3,.nos 5 n3,.int i64 f3,.int i64 u3,.bool c3] 31 6,.ro true B,.ro true C,.ro true D,.ro true E]):=by kernel_rfl
theorem vs_at{st:St}{z:Bool}{k:Nat}{s:List UInt8}(h:st[k]?=some (.ro z (strs (dL s)))):bC st (.nos k (dN s))=some (true,dL s):=by
 unfold bC cQ dN;simp only[h,Nat.mul_one,aE];rw[cz (by rw[aE];exact Nat.le_refl _),bD,ai,aE,a9,ag (Nat.le_refl _)];rfl
def rA(l:List (List UInt8)):List V:=bif Nat.beq (rdN l) 0 then[]else aF 1 (rdA (rdG l 0) 1 (rdT l))
def rB(l:List (List UInt8)):List V:=aF 1 (strs (dL (rdG l 0)))
def rNm(l:List (List UInt8))(i:Nat):List V:=aF 1 (nmR l i)
theorem n7(l:List (List UInt8)):rB l=strs (dL (rdG l 0)):=fS _ _
theorem fV{l:List (List UInt8)}{i:Nat}(h:i<rdN l):rNm l i=strs (dL (rdG l i)):=by
 have e:Nat.blt i (rdN l)=true:=ag h;unfold rNm nmR;rw[e,ae];exact fS _ _
structure RtAt (st:St) (l:List (List UInt8)):Prop where
 b2:(∃t sz,st[1]?=some (.row (rA l) t sz))∨∃z,st[1]?=some (.ro z (rA l))
 b3:∃z,st[2]?=some (.ro z (rB l))
 b4:∃z,st[3]?=some (.ro z (rNm l 1))
 b5:∃z,st[4]?=some (.ro z (rNm l 2))
 b6:∃z,st[5]?=some (.ro z (rNm l 3))
theorem rt_cr{st:St}{l:List (List UInt8)}(h:RtAt st l)(h0:rdN l≠0):isCr st (rA l)=true∧crD st (rA l)=bM l:=by
 have h4:=(cJ l).1;obtain⟨z3,g3⟩:=h.b3;obtain⟨z4,g4⟩:=h.b4;obtain⟨z5,g5⟩:=h.b5;obtain⟨z6,g6⟩:=h.b6;rw[n7]at g3;rcases(by omega:rdN l=1∨rdN l=2∨rdN l=3∨rdN l=4)with hj|hj|hj|hj
 ·have e:rA l=rdA (rdG l 0) 2 []:=by unfold rA rdT;rw[hj];rfl
  rw[e,bT hj,(bz g3).1,(bz g3).2];exact⟨rfl,rfl⟩
 ·have e:rA l=rdA (rdG l 0) 2 (rdA (rdG l 1) 3 []):=by unfold rA rdT;rw[hj];rfl
  rw[fV (by omega)]at g4;rw[e,bT hj,(bz g3).1,(bz g3).2,(bz g4).1,(bz g4).2];exact⟨rfl,rfl⟩
 ·have e:rA l=rdA (rdG l 0) 2 (rdA (rdG l 1) 3 (rdA (rdG l 2) 4 [])):=by unfold rA rdT;rw[hj];rfl
  rw[fV (by omega)]at g4 g5;rw[e,bT hj,(bz g3).1,(bz g3).2,(bz g4).1,(bz g4).2,(bz g5).1,(bz g5).2];exact⟨rfl,rfl⟩
 ·have e:rA l=rdA (rdG l 0) 2 (rdA (rdG l 1) 3 (rdA (rdG l 2) 4 (rdA (rdG l 3) 5 []))):=by unfold rA rdT;rw[hj];rfl
  rw[fV (by omega)]at g4 g5 g6;rw[e,bT hj,(bz g3).1,(bz g3).2,(bz g4).1,(bz g4).2,(bz g5).1,(bz g5).2,(bz g6).1,(bz g6).2];exact⟨rfl,rfl⟩
theorem rt_view{st:St}{l:List (List UInt8)}(h:RtAt st l)(h0:rdN l≠0){j:Nat}(hj:j≤rdN l):gV st (.slice 1 0 j false 0 0)=some (true,(bM l).take j):=by
 obtain⟨c1,c2⟩:=rt_cr h h0;have hv:cQ st 6 (.slice 1 0 j false 0 0)=some (Nat.ble (0+j*6) (rA l).length,(j,((rA l).drop 0).take (j*6))):=by
  rcases h.b2 with⟨t,sz,g⟩|⟨z,g⟩<;>simp only[cQ,g]
 have hlen:=m6 st (rA l) c1;rw[c2,gJ]at hlen;obtain⟨t1,t2⟩:=j6 st j (rA l) c1;unfold gV;rw[hv];have t2:isCr st ((rA l).take (j*6))=true:=t2;simp only[List.drop_zero,t1,t2,c2,ag (show 0+j*6≤(rA l).length by omega),List.length_take,gJ,Nat.min_eq_left hj,a9,bv]
theorem kg{st:St}{l:List (List UInt8)}(h:RtAt st l)(h0:rdN l≠0){j:Nat}(hj:j≤rdN l):rOK (.slice 1 0 j false 0 0) st=true∧cM (.slice 1 0 j false 0 0) st=bW ((bM l).take j):=by
 unfold rOK cM;rw[rt_view h h0 hj];have:=(cJ l).1;exact⟨by show(true&&_)=true;rw[aH];exact ag (by rw[List.length_take,gJ];omega),rfl⟩
theorem dC{st:St}{s:List UInt8}{z:Bool}{k:Nat}(h:st[k]?=some (.ro z (strs (dL s)))):dOK (.agg [.str (dK s),.str (dG s),.nos k (dN s),.int .i64 (dF s),.int .i64 (dU s),.bool (dCa s)]) st=true:=by
 unfold dOK;simp only[vs_at h]
def rmS(u s m:Int)(d:List UInt8)(l:List (List UInt8)):St:=[.row [.int .u8 u,.int .u8 s,.int .u8 m,.str d] 72 4,.row (rA l) 31 6,.ro true (rB l),.ro true (rNm l 1),.ro true (rNm l 2),.ro true (rNm l 3)]
def rcnd(u s m:Int)(d:List UInt8)(now:Int)(l:List (List UInt8))(i:Nat):Bool:=!ff now ((bM l).take (i+1))&&(ofB u s m d (rdG l i)&&bW ((bM l).take (i+1)))
theorem lE{l:List (List UInt8)}{i:Nat}(h:i<l.length):(strs l).getD i (.bool false)=.str (rdG l i):=by
 rw[bX];unfold strs rdG;rw[List.getElem?_map,bX,List.getElem?_eq_getElem h];rfl
theorem nq{l:List (List UInt8)}(hal:l.all az=true){i:Nat}(h:i<l.length):az (rdG l i)=true:=by
 unfold rdG;rw[bX,List.getElem?_eq_getElem h];exact List.all_eq_true.1 hal _ (List.getElem_mem h)
theorem rA_1{l:List (List UInt8)}(hj:rdN l=1):rA l=[.str (dK (rdG l 0)),.str (dG (rdG l 0)),.nos 2 (dN (rdG l 0)),.int .i64 (dF (rdG l 0)),.int .i64 (dU (rdG l 0)),.bool (dCa (rdG l 0))]:=by unfold rA rdT;rw[hj];rfl
theorem rA_2{l:List (List UInt8)}(hj:rdN l=2):rA l=[.str (dK (rdG l 0)),.str (dG (rdG l 0)),.nos 2 (dN (rdG l 0)),.int .i64 (dF (rdG l 0)),.int .i64 (dU (rdG l 0)),.bool (dCa (rdG l 0)),.str (dK (rdG l 1)),.str (dG (rdG l 1)),.nos 3 (dN (rdG l 1)),.int .i64 (dF (rdG l 1)),.int .i64 (dU (rdG l 1)),.bool (dCa (rdG l 1))]:=by unfold rA rdT;rw[hj];rfl
theorem rA_3{l:List (List UInt8)}(hj:rdN l=3):rA l=[.str (dK (rdG l 0)),.str (dG (rdG l 0)),.nos 2 (dN (rdG l 0)),.int .i64 (dF (rdG l 0)),.int .i64 (dU (rdG l 0)),.bool (dCa (rdG l 0)),.str (dK (rdG l 1)),.str (dG (rdG l 1)),.nos 3 (dN (rdG l 1)),.int .i64 (dF (rdG l 1)),.int .i64 (dU (rdG l 1)),.bool (dCa (rdG l 1)),.str (dK (rdG l 2)),.str (dG (rdG l 2)),.nos 4 (dN (rdG l 2)),.int .i64 (dF (rdG l 2)),.int .i64 (dU (rdG l 2)),.bool (dCa (rdG l 2))]:=by unfold rA rdT;rw[hj];rfl
theorem rA_4{l:List (List UInt8)}(hj:rdN l=4):rA l=[.str (dK (rdG l 0)),.str (dG (rdG l 0)),.nos 2 (dN (rdG l 0)),.int .i64 (dF (rdG l 0)),.int .i64 (dU (rdG l 0)),.bool (dCa (rdG l 0)),.str (dK (rdG l 1)),.str (dG (rdG l 1)),.nos 3 (dN (rdG l 1)),.int .i64 (dF (rdG l 1)),.int .i64 (dU (rdG l 1)),.bool (dCa (rdG l 1)),.str (dK (rdG l 2)),.str (dG (rdG l 2)),.nos 4 (dN (rdG l 2)),.int .i64 (dF (rdG l 2)),.int .i64 (dU (rdG l 2)),.bool (dCa (rdG l 2)),.str (dK (rdG l 3)),.str (dG (rdG l 3)),.nos 5 (dN (rdG l 3)),.int .i64 (dF (rdG l 3)),.int .i64 (dU (rdG l 3)),.bool (dCa (rdG l 3))]:=by unfold rA rdT;rw[hj];rfl
theorem rmt_11{u s m:Int}{d:List UInt8}{x:Value}{now:Int}{l:List (List UInt8)}(hj:rdN l=1){R:Qz}(h:R (.exit 0) [some (.lst x l.length (strs l)),some (.int .i64 now),some (.ptr 0 0),some (.bool false),some (.slice 1 0 1 false 0 0),some (.int .i64 1)] (rmS u s m d l)):al Qq (RX1 rOK dOK cM dDV) 9 10 (ah 9) 104 250 [1,3,4,8,9,10] [.lst x l.length (strs l),.int .i64 now,.ptr 0 0,.bool false,.slice 1 0 1 false 0 0,.int .i64 1] (rmS u s m d l) R:=by
 unfold rmS at h ⊢;rw[rA_1 hj]at h ⊢;exact cast (rmo_11 rOK dOK cM dDV u s m d x l.length (strs l) now (dK (rdG l 0)) (dG (rdG l 0)) (dN (rdG l 0)) (dF (rdG l 0)) (dU (rdG l 0)) (dCa (rdG l 0)) (rB l) (rNm l 1) (rNm l 2) (rNm l 3) R).symm h
theorem rmt_21{u s m:Int}{d:List UInt8}{x:Value}{now:Int}{l:List (List UInt8)}(hj:rdN l=2)(hu:(u8B s&&u8B m)=true)(hal:l.all az=true){R:Qz}(hN:rcnd u s m d now l 1=false→R .normal [some (.lst x l.length (strs l)),some (.int .i64 now),some (.ptr 0 0),some (.bool false),some (.slice 1 0 2 false 0 0),some (.int .i64 2)] (rmS u s m d l))(hR:rcnd u s m d now l 1=true→R .ret [some (.lst x l.length (strs l)),some (.int .i64 now),some (.ptr 0 0),some (.bool true),some (.slice 1 0 2 false 0 0),some (.int .i64 1)] (rmS u s m d l)):al Qq (RX1 rOK dOK cM dDV) 9 10 (ah 9) 104 250 [1,3,4,8,9,10] [.lst x l.length (strs l),.int .i64 now,.ptr 0 0,.bool false,.slice 1 0 2 false 0 0,.int .i64 1] (rmS u s m d l) R:=by
 have h4:=(cJ l).2;have late:ff now ((bM l).take 2)=(!aS (dF (rdG l 0)) (dU (rdG l 0)) now||(!aS (dF (rdG l 1)) (dU (rdG l 1)) now||false)):=by rw[bT hj];rfl
 have lk:=kg (st:=[.ro false [.int .u8 u,.int .u8 s,.int .u8 m,.str d],.ro false (rA l),.ro false (rB l),.ro false (rNm l 1),.ro false (rNm l 2),.ro false (rNm l 3)]) (l:=l) ⟨.inr ⟨_,rfl⟩,⟨_,rfl⟩,⟨_,rfl⟩,⟨_,rfl⟩,⟨_,rfl⟩⟩ (by omega) (j:=2) (by omega);unfold rmS at hN hR ⊢;rw[rA_2 hj]at hN hR lk ⊢;refine cast (rmo_21 rOK dOK cM dDV u s m d x l.length (strs l) now (dK (rdG l 0)) (dG (rdG l 0)) (dN (rdG l 0)) (dF (rdG l 0)) (dU (rdG l 0)) (dCa (rdG l 0)) (dK (rdG l 1)) (dG (rdG l 1)) (dN (rdG l 1)) (dF (rdG l 1)) (dU (rdG l 1)) (dCa (rdG l 1)) (rB l) (rNm l 1) (rNm l 2) (rNm l 3) R).symm ?_;unfold zea_1 kO;have gt:=lE (l:=l) (i:=1) (by omega);rw[gt];simp only[ar,ab,nq hal (i:=1) (by omega),hu,aH,ae];refine aa (am (by omega)) (aa (ag (by rw[aE];omega)) ?_);cases hO:ofB u s m d (rdG l 1)with
 |false=>exact hN (by unfold rcnd;rw[hO,Bool.false_and,bL])
 |true=>
 refine aa lk.1 ?_;rw[lk.2];cases hK:bW ((bM l).take 2)with
 |false=>exact hN (by unfold rcnd;rw[hK,bL,bL])
 |true=>
 refine aa (dC (z:=true) (by rw[←n7 l];rfl)) ?_;show bif aS (dF (rdG l 0)) (dU (rdG l 0)) now then _ else _
 cases hD0:aS (dF (rdG l 0)) (dU (rdG l 0)) now with
 |false=>exact hN (by unfold rcnd;rw[late,hD0];simp)
 |true=>
 refine aa (dC (z:=true) (by rw[←fV (l:=l) (i:=1) (by omega)];rfl)) ?_;show bif aS (dF (rdG l 1)) (dU (rdG l 1)) now then _ else _
 cases hD1:aS (dF (rdG l 1)) (dU (rdG l 1)) now with
 |false=>exact hN (by unfold rcnd;rw[late,hD0,hD1];simp)
 |true=>
 exact hR (by unfold rcnd;rw[late,hO,hK,hD0,hD1];rfl)
theorem rmt_22{u s m:Int}{d:List UInt8}{x:Value}{now:Int}{l:List (List UInt8)}(hj:rdN l=2){R:Qz}(h:R (.exit 0) [some (.lst x l.length (strs l)),some (.int .i64 now),some (.ptr 0 0),some (.bool false),some (.slice 1 0 2 false 0 0),some (.int .i64 2)] (rmS u s m d l)):al Qq (RX1 rOK dOK cM dDV) 9 10 (ah 9) 104 250 [1,3,4,8,9,10] [.lst x l.length (strs l),.int .i64 now,.ptr 0 0,.bool false,.slice 1 0 2 false 0 0,.int .i64 2] (rmS u s m d l) R:=by
 unfold rmS at h ⊢;rw[rA_2 hj]at h ⊢;exact cast (rmo_22 rOK dOK cM dDV u s m d x l.length (strs l) now (dK (rdG l 0)) (dG (rdG l 0)) (dN (rdG l 0)) (dF (rdG l 0)) (dU (rdG l 0)) (dCa (rdG l 0)) (dK (rdG l 1)) (dG (rdG l 1)) (dN (rdG l 1)) (dF (rdG l 1)) (dU (rdG l 1)) (dCa (rdG l 1)) (rB l) (rNm l 1) (rNm l 2) (rNm l 3) R).symm h
theorem rmt_31{u s m:Int}{d:List UInt8}{x:Value}{now:Int}{l:List (List UInt8)}(hj:rdN l=3)(hu:(u8B s&&u8B m)=true)(hal:l.all az=true){R:Qz}(hN:rcnd u s m d now l 1=false→R .normal [some (.lst x l.length (strs l)),some (.int .i64 now),some (.ptr 0 0),some (.bool false),some (.slice 1 0 3 false 0 0),some (.int .i64 2)] (rmS u s m d l))(hR:rcnd u s m d now l 1=true→R .ret [some (.lst x l.length (strs l)),some (.int .i64 now),some (.ptr 0 0),some (.bool true),some (.slice 1 0 3 false 0 0),some (.int .i64 1)] (rmS u s m d l)):al Qq (RX1 rOK dOK cM dDV) 9 10 (ah 9) 104 250 [1,3,4,8,9,10] [.lst x l.length (strs l),.int .i64 now,.ptr 0 0,.bool false,.slice 1 0 3 false 0 0,.int .i64 1] (rmS u s m d l) R:=by
 have h4:=(cJ l).2;have late:ff now ((bM l).take 2)=(!aS (dF (rdG l 0)) (dU (rdG l 0)) now||(!aS (dF (rdG l 1)) (dU (rdG l 1)) now||false)):=by rw[bT hj];rfl
 have lk:=kg (st:=[.ro false [.int .u8 u,.int .u8 s,.int .u8 m,.str d],.ro false (rA l),.ro false (rB l),.ro false (rNm l 1),.ro false (rNm l 2),.ro false (rNm l 3)]) (l:=l) ⟨.inr ⟨_,rfl⟩,⟨_,rfl⟩,⟨_,rfl⟩,⟨_,rfl⟩,⟨_,rfl⟩⟩ (by omega) (j:=2) (by omega);unfold rmS at hN hR ⊢;rw[rA_3 hj]at hN hR lk ⊢;refine cast (rmo_31 rOK dOK cM dDV u s m d x l.length (strs l) now (dK (rdG l 0)) (dG (rdG l 0)) (dN (rdG l 0)) (dF (rdG l 0)) (dU (rdG l 0)) (dCa (rdG l 0)) (dK (rdG l 1)) (dG (rdG l 1)) (dN (rdG l 1)) (dF (rdG l 1)) (dU (rdG l 1)) (dCa (rdG l 1)) (dK (rdG l 2)) (dG (rdG l 2)) (dN (rdG l 2)) (dF (rdG l 2)) (dU (rdG l 2)) (dCa (rdG l 2)) (rB l) (rNm l 1) (rNm l 2) (rNm l 3) R).symm ?_;unfold zea_3 kN;have gt:=lE (l:=l) (i:=1) (by omega);rw[gt];simp only[ar,ab,nq hal (i:=1) (by omega),hu,aH,ae];refine aa (am (by omega)) (aa (ag (by rw[aE];omega)) ?_);cases hO:ofB u s m d (rdG l 1)with
 |false=>exact hN (by unfold rcnd;rw[hO,Bool.false_and,bL])
 |true=>
 refine aa lk.1 ?_;rw[lk.2];cases hK:bW ((bM l).take 2)with
 |false=>exact hN (by unfold rcnd;rw[hK,bL,bL])
 |true=>
 refine aa (dC (z:=true) (by rw[←n7 l];rfl)) ?_;show bif aS (dF (rdG l 0)) (dU (rdG l 0)) now then _ else _
 cases hD0:aS (dF (rdG l 0)) (dU (rdG l 0)) now with
 |false=>exact hN (by unfold rcnd;rw[late,hD0];simp)
 |true=>
 refine aa (dC (z:=true) (by rw[←fV (l:=l) (i:=1) (by omega)];rfl)) ?_;show bif aS (dF (rdG l 1)) (dU (rdG l 1)) now then _ else _
 cases hD1:aS (dF (rdG l 1)) (dU (rdG l 1)) now with
 |false=>exact hN (by unfold rcnd;rw[late,hD0,hD1];simp)
 |true=>
 exact hR (by unfold rcnd;rw[late,hO,hK,hD0,hD1];rfl)
theorem rmt_32{u s m:Int}{d:List UInt8}{x:Value}{now:Int}{l:List (List UInt8)}(hj:rdN l=3)(hu:(u8B s&&u8B m)=true)(hal:l.all az=true){R:Qz}(hN:rcnd u s m d now l 2=false→R .normal [some (.lst x l.length (strs l)),some (.int .i64 now),some (.ptr 0 0),some (.bool false),some (.slice 1 0 3 false 0 0),some (.int .i64 3)] (rmS u s m d l))(hR:rcnd u s m d now l 2=true→R .ret [some (.lst x l.length (strs l)),some (.int .i64 now),some (.ptr 0 0),some (.bool true),some (.slice 1 0 3 false 0 0),some (.int .i64 2)] (rmS u s m d l)):al Qq (RX1 rOK dOK cM dDV) 9 10 (ah 9) 104 250 [1,3,4,8,9,10] [.lst x l.length (strs l),.int .i64 now,.ptr 0 0,.bool false,.slice 1 0 3 false 0 0,.int .i64 2] (rmS u s m d l) R:=by
 have h4:=(cJ l).2;have late:ff now ((bM l).take 3)=(!aS (dF (rdG l 0)) (dU (rdG l 0)) now||(!aS (dF (rdG l 1)) (dU (rdG l 1)) now||(!aS (dF (rdG l 2)) (dU (rdG l 2)) now||false))):=by rw[bT hj];rfl
 have lk:=kg (st:=[.ro false [.int .u8 u,.int .u8 s,.int .u8 m,.str d],.ro false (rA l),.ro false (rB l),.ro false (rNm l 1),.ro false (rNm l 2),.ro false (rNm l 3)]) (l:=l) ⟨.inr ⟨_,rfl⟩,⟨_,rfl⟩,⟨_,rfl⟩,⟨_,rfl⟩,⟨_,rfl⟩⟩ (by omega) (j:=3) (by omega);unfold rmS at hN hR ⊢;rw[rA_3 hj]at hN hR lk ⊢;refine cast (rmo_32 rOK dOK cM dDV u s m d x l.length (strs l) now (dK (rdG l 0)) (dG (rdG l 0)) (dN (rdG l 0)) (dF (rdG l 0)) (dU (rdG l 0)) (dCa (rdG l 0)) (dK (rdG l 1)) (dG (rdG l 1)) (dN (rdG l 1)) (dF (rdG l 1)) (dU (rdG l 1)) (dCa (rdG l 1)) (dK (rdG l 2)) (dG (rdG l 2)) (dN (rdG l 2)) (dF (rdG l 2)) (dU (rdG l 2)) (dCa (rdG l 2)) (rB l) (rNm l 1) (rNm l 2) (rNm l 3) R).symm ?_;unfold rd iP;have gt:=lE (l:=l) (i:=2) (by omega);rw[gt];simp only[ar,ab,nq hal (i:=2) (by omega),hu,aH,ae];refine aa (am (by omega)) (aa (ag (by rw[aE];omega)) ?_);cases hO:ofB u s m d (rdG l 2)with
 |false=>exact hN (by unfold rcnd;rw[hO,Bool.false_and,bL])
 |true=>
 refine aa lk.1 ?_;rw[lk.2];cases hK:bW ((bM l).take 3)with
 |false=>exact hN (by unfold rcnd;rw[hK,bL,bL])
 |true=>
 refine aa (dC (z:=true) (by rw[←n7 l];rfl)) ?_;show bif aS (dF (rdG l 0)) (dU (rdG l 0)) now then _ else _
 cases hD0:aS (dF (rdG l 0)) (dU (rdG l 0)) now with
 |false=>exact hN (by unfold rcnd;rw[late,hD0];simp)
 |true=>
 refine aa (dC (z:=true) (by rw[←fV (l:=l) (i:=1) (by omega)];rfl)) ?_;show bif aS (dF (rdG l 1)) (dU (rdG l 1)) now then _ else _
 cases hD1:aS (dF (rdG l 1)) (dU (rdG l 1)) now with
 |false=>exact hN (by unfold rcnd;rw[late,hD0,hD1];simp)
 |true=>
 refine aa (dC (z:=true) (by rw[←fV (l:=l) (i:=2) (by omega)];rfl)) ?_;show bif aS (dF (rdG l 2)) (dU (rdG l 2)) now then _ else _
 cases hD2:aS (dF (rdG l 2)) (dU (rdG l 2)) now with
 |false=>exact hN (by unfold rcnd;rw[late,hD0,hD1,hD2];simp)
 |true=>
 exact hR (by unfold rcnd;rw[late,hO,hK,hD0,hD1,hD2];rfl)
theorem rmt_33{u s m:Int}{d:List UInt8}{x:Value}{now:Int}{l:List (List UInt8)}(hj:rdN l=3){R:Qz}(h:R (.exit 0) [some (.lst x l.length (strs l)),some (.int .i64 now),some (.ptr 0 0),some (.bool false),some (.slice 1 0 3 false 0 0),some (.int .i64 3)] (rmS u s m d l)):al Qq (RX1 rOK dOK cM dDV) 9 10 (ah 9) 104 250 [1,3,4,8,9,10] [.lst x l.length (strs l),.int .i64 now,.ptr 0 0,.bool false,.slice 1 0 3 false 0 0,.int .i64 3] (rmS u s m d l) R:=by
 unfold rmS at h ⊢;rw[rA_3 hj]at h ⊢;exact cast (rmo_33 rOK dOK cM dDV u s m d x l.length (strs l) now (dK (rdG l 0)) (dG (rdG l 0)) (dN (rdG l 0)) (dF (rdG l 0)) (dU (rdG l 0)) (dCa (rdG l 0)) (dK (rdG l 1)) (dG (rdG l 1)) (dN (rdG l 1)) (dF (rdG l 1)) (dU (rdG l 1)) (dCa (rdG l 1)) (dK (rdG l 2)) (dG (rdG l 2)) (dN (rdG l 2)) (dF (rdG l 2)) (dU (rdG l 2)) (dCa (rdG l 2)) (rB l) (rNm l 1) (rNm l 2) (rNm l 3) R).symm h
theorem rmt_41{u s m:Int}{d:List UInt8}{x:Value}{now:Int}{l:List (List UInt8)}(hj:rdN l=4)(hu:(u8B s&&u8B m)=true)(hal:l.all az=true){R:Qz}(hN:rcnd u s m d now l 1=false→R .normal [some (.lst x l.length (strs l)),some (.int .i64 now),some (.ptr 0 0),some (.bool false),some (.slice 1 0 4 false 0 0),some (.int .i64 2)] (rmS u s m d l))(hR:rcnd u s m d now l 1=true→R .ret [some (.lst x l.length (strs l)),some (.int .i64 now),some (.ptr 0 0),some (.bool true),some (.slice 1 0 4 false 0 0),some (.int .i64 1)] (rmS u s m d l)):al Qq (RX1 rOK dOK cM dDV) 9 10 (ah 9) 104 250 [1,3,4,8,9,10] [.lst x l.length (strs l),.int .i64 now,.ptr 0 0,.bool false,.slice 1 0 4 false 0 0,.int .i64 1] (rmS u s m d l) R:=by
 have h4:=(cJ l).2;have late:ff now ((bM l).take 2)=(!aS (dF (rdG l 0)) (dU (rdG l 0)) now||(!aS (dF (rdG l 1)) (dU (rdG l 1)) now||false)):=by rw[bT hj];rfl
 have lk:=kg (st:=[.ro false [.int .u8 u,.int .u8 s,.int .u8 m,.str d],.ro false (rA l),.ro false (rB l),.ro false (rNm l 1),.ro false (rNm l 2),.ro false (rNm l 3)]) (l:=l) ⟨.inr ⟨_,rfl⟩,⟨_,rfl⟩,⟨_,rfl⟩,⟨_,rfl⟩,⟨_,rfl⟩⟩ (by omega) (j:=2) (by omega);unfold rmS at hN hR ⊢;rw[rA_4 hj]at hN hR lk ⊢;refine cast (rmo_41 rOK dOK cM dDV u s m d x l.length (strs l) now (dK (rdG l 0)) (dG (rdG l 0)) (dN (rdG l 0)) (dF (rdG l 0)) (dU (rdG l 0)) (dCa (rdG l 0)) (dK (rdG l 1)) (dG (rdG l 1)) (dN (rdG l 1)) (dF (rdG l 1)) (dU (rdG l 1)) (dCa (rdG l 1)) (dK (rdG l 2)) (dG (rdG l 2)) (dN (rdG l 2)) (dF (rdG l 2)) (dU (rdG l 2)) (dCa (rdG l 2)) (dK (rdG l 3)) (dG (rdG l 3)) (dN (rdG l 3)) (dF (rdG l 3)) (dU (rdG l 3)) (dCa (rdG l 3)) (rB l) (rNm l 1) (rNm l 2) (rNm l 3) R).symm ?_;unfold zea_7 kM zea_8;have gt:=lE (l:=l) (i:=1) (by omega);rw[gt];simp only[ar,ab,nq hal (i:=1) (by omega),hu,aH,ae];refine aa (am (by omega)) (aa (ag (by rw[aE];omega)) ?_);cases hO:ofB u s m d (rdG l 1)with
 |false=>exact hN (by unfold rcnd;rw[hO,Bool.false_and,bL])
 |true=>
 refine aa lk.1 ?_;rw[lk.2];cases hK:bW ((bM l).take 2)with
 |false=>exact hN (by unfold rcnd;rw[hK,bL,bL])
 |true=>
 refine aa (dC (z:=true) (by rw[←n7 l];rfl)) ?_;show bif aS (dF (rdG l 0)) (dU (rdG l 0)) now then _ else _
 cases hD0:aS (dF (rdG l 0)) (dU (rdG l 0)) now with
 |false=>exact hN (by unfold rcnd;rw[late,hD0];simp)
 |true=>
 refine aa (dC (z:=true) (by rw[←fV (l:=l) (i:=1) (by omega)];rfl)) ?_;show bif aS (dF (rdG l 1)) (dU (rdG l 1)) now then _ else _
 cases hD1:aS (dF (rdG l 1)) (dU (rdG l 1)) now with
 |false=>exact hN (by unfold rcnd;rw[late,hD0,hD1];simp)
 |true=>
 exact hR (by unfold rcnd;rw[late,hO,hK,hD0,hD1];rfl)
theorem rmt_42{u s m:Int}{d:List UInt8}{x:Value}{now:Int}{l:List (List UInt8)}(hj:rdN l=4)(hu:(u8B s&&u8B m)=true)(hal:l.all az=true){R:Qz}(hN:rcnd u s m d now l 2=false→R .normal [some (.lst x l.length (strs l)),some (.int .i64 now),some (.ptr 0 0),some (.bool false),some (.slice 1 0 4 false 0 0),some (.int .i64 3)] (rmS u s m d l))(hR:rcnd u s m d now l 2=true→R .ret [some (.lst x l.length (strs l)),some (.int .i64 now),some (.ptr 0 0),some (.bool true),some (.slice 1 0 4 false 0 0),some (.int .i64 2)] (rmS u s m d l)):al Qq (RX1 rOK dOK cM dDV) 9 10 (ah 9) 104 250 [1,3,4,8,9,10] [.lst x l.length (strs l),.int .i64 now,.ptr 0 0,.bool false,.slice 1 0 4 false 0 0,.int .i64 2] (rmS u s m d l) R:=by
 have h4:=(cJ l).2;have late:ff now ((bM l).take 3)=(!aS (dF (rdG l 0)) (dU (rdG l 0)) now||(!aS (dF (rdG l 1)) (dU (rdG l 1)) now||(!aS (dF (rdG l 2)) (dU (rdG l 2)) now||false))):=by rw[bT hj];rfl
 have lk:=kg (st:=[.ro false [.int .u8 u,.int .u8 s,.int .u8 m,.str d],.ro false (rA l),.ro false (rB l),.ro false (rNm l 1),.ro false (rNm l 2),.ro false (rNm l 3)]) (l:=l) ⟨.inr ⟨_,rfl⟩,⟨_,rfl⟩,⟨_,rfl⟩,⟨_,rfl⟩,⟨_,rfl⟩⟩ (by omega) (j:=3) (by omega);unfold rmS at hN hR ⊢;rw[rA_4 hj]at hN hR lk ⊢;refine cast (rmo_42 rOK dOK cM dDV u s m d x l.length (strs l) now (dK (rdG l 0)) (dG (rdG l 0)) (dN (rdG l 0)) (dF (rdG l 0)) (dU (rdG l 0)) (dCa (rdG l 0)) (dK (rdG l 1)) (dG (rdG l 1)) (dN (rdG l 1)) (dF (rdG l 1)) (dU (rdG l 1)) (dCa (rdG l 1)) (dK (rdG l 2)) (dG (rdG l 2)) (dN (rdG l 2)) (dF (rdG l 2)) (dU (rdG l 2)) (dCa (rdG l 2)) (dK (rdG l 3)) (dG (rdG l 3)) (dN (rdG l 3)) (dF (rdG l 3)) (dU (rdG l 3)) (dCa (rdG l 3)) (rB l) (rNm l 1) (rNm l 2) (rNm l 3) R).symm ?_;unfold ne iO s4;have gt:=lE (l:=l) (i:=2) (by omega);rw[gt];simp only[ar,ab,nq hal (i:=2) (by omega),hu,aH,ae];refine aa (am (by omega)) (aa (ag (by rw[aE];omega)) ?_);cases hO:ofB u s m d (rdG l 2)with
 |false=>exact hN (by unfold rcnd;rw[hO,Bool.false_and,bL])
 |true=>
 refine aa lk.1 ?_;rw[lk.2];cases hK:bW ((bM l).take 3)with
 |false=>exact hN (by unfold rcnd;rw[hK,bL,bL])
 |true=>
 refine aa (dC (z:=true) (by rw[←n7 l];rfl)) ?_;show bif aS (dF (rdG l 0)) (dU (rdG l 0)) now then _ else _
 cases hD0:aS (dF (rdG l 0)) (dU (rdG l 0)) now with
 |false=>exact hN (by unfold rcnd;rw[late,hD0];simp)
 |true=>
 refine aa (dC (z:=true) (by rw[←fV (l:=l) (i:=1) (by omega)];rfl)) ?_;show bif aS (dF (rdG l 1)) (dU (rdG l 1)) now then _ else _
 cases hD1:aS (dF (rdG l 1)) (dU (rdG l 1)) now with
 |false=>exact hN (by unfold rcnd;rw[late,hD0,hD1];simp)
 |true=>
 refine aa (dC (z:=true) (by rw[←fV (l:=l) (i:=2) (by omega)];rfl)) ?_;show bif aS (dF (rdG l 2)) (dU (rdG l 2)) now then _ else _
 cases hD2:aS (dF (rdG l 2)) (dU (rdG l 2)) now with
 |false=>exact hN (by unfold rcnd;rw[late,hD0,hD1,hD2];simp)
 |true=>
 exact hR (by unfold rcnd;rw[late,hO,hK,hD0,hD1,hD2];rfl)
theorem rmt_43{u s m:Int}{d:List UInt8}{x:Value}{now:Int}{l:List (List UInt8)}(hj:rdN l=4)(hu:(u8B s&&u8B m)=true)(hal:l.all az=true){R:Qz}(hN:rcnd u s m d now l 3=false→R .normal [some (.lst x l.length (strs l)),some (.int .i64 now),some (.ptr 0 0),some (.bool false),some (.slice 1 0 4 false 0 0),some (.int .i64 4)] (rmS u s m d l))(hR:rcnd u s m d now l 3=true→R .ret [some (.lst x l.length (strs l)),some (.int .i64 now),some (.ptr 0 0),some (.bool true),some (.slice 1 0 4 false 0 0),some (.int .i64 3)] (rmS u s m d l)):al Qq (RX1 rOK dOK cM dDV) 9 10 (ah 9) 104 250 [1,3,4,8,9,10] [.lst x l.length (strs l),.int .i64 now,.ptr 0 0,.bool false,.slice 1 0 4 false 0 0,.int .i64 3] (rmS u s m d l) R:=by
 have h4:=(cJ l).2;have late:ff now ((bM l).take 4)=(!aS (dF (rdG l 0)) (dU (rdG l 0)) now||(!aS (dF (rdG l 1)) (dU (rdG l 1)) now||(!aS (dF (rdG l 2)) (dU (rdG l 2)) now||(!aS (dF (rdG l 3)) (dU (rdG l 3)) now||false)))):=by rw[bT hj];rfl
 have lk:=kg (st:=[.ro false [.int .u8 u,.int .u8 s,.int .u8 m,.str d],.ro false (rA l),.ro false (rB l),.ro false (rNm l 1),.ro false (rNm l 2),.ro false (rNm l 3)]) (l:=l) ⟨.inr ⟨_,rfl⟩,⟨_,rfl⟩,⟨_,rfl⟩,⟨_,rfl⟩,⟨_,rfl⟩⟩ (by omega) (j:=4) (by omega);unfold rmS at hN hR ⊢;rw[rA_4 hj]at hN hR lk ⊢;refine cast (rmo_43 rOK dOK cM dDV u s m d x l.length (strs l) now (dK (rdG l 0)) (dG (rdG l 0)) (dN (rdG l 0)) (dF (rdG l 0)) (dU (rdG l 0)) (dCa (rdG l 0)) (dK (rdG l 1)) (dG (rdG l 1)) (dN (rdG l 1)) (dF (rdG l 1)) (dU (rdG l 1)) (dCa (rdG l 1)) (dK (rdG l 2)) (dG (rdG l 2)) (dN (rdG l 2)) (dF (rdG l 2)) (dU (rdG l 2)) (dCa (rdG l 2)) (dK (rdG l 3)) (dG (rdG l 3)) (dN (rdG l 3)) (dF (rdG l 3)) (dU (rdG l 3)) (dCa (rdG l 3)) (rB l) (rNm l 1) (rNm l 2) (rNm l 3) R).symm ?_;unfold li e8 sZ;have gt:=lE (l:=l) (i:=3) (by omega);rw[gt];simp only[ar,ab,nq hal (i:=3) (by omega),hu,aH,ae];refine aa (am (by omega)) (aa (ag (by rw[aE];omega)) ?_);cases hO:ofB u s m d (rdG l 3)with
 |false=>exact hN (by unfold rcnd;rw[hO,Bool.false_and,bL])
 |true=>
 refine aa lk.1 ?_;rw[lk.2];cases hK:bW ((bM l).take 4)with
 |false=>exact hN (by unfold rcnd;rw[hK,bL,bL])
 |true=>
 refine aa (dC (z:=true) (by rw[←n7 l];rfl)) ?_;show bif aS (dF (rdG l 0)) (dU (rdG l 0)) now then _ else _
 cases hD0:aS (dF (rdG l 0)) (dU (rdG l 0)) now with
 |false=>exact hN (by unfold rcnd;rw[late,hD0];simp)
 |true=>
 refine aa (dC (z:=true) (by rw[←fV (l:=l) (i:=1) (by omega)];rfl)) ?_;show bif aS (dF (rdG l 1)) (dU (rdG l 1)) now then _ else _
 cases hD1:aS (dF (rdG l 1)) (dU (rdG l 1)) now with
 |false=>exact hN (by unfold rcnd;rw[late,hD0,hD1];simp)
 |true=>
 refine aa (dC (z:=true) (by rw[←fV (l:=l) (i:=2) (by omega)];rfl)) ?_;show bif aS (dF (rdG l 2)) (dU (rdG l 2)) now then _ else _
 cases hD2:aS (dF (rdG l 2)) (dU (rdG l 2)) now with
 |false=>exact hN (by unfold rcnd;rw[late,hD0,hD1,hD2];simp)
 |true=>
 refine aa (dC (z:=true) (by rw[←fV (l:=l) (i:=3) (by omega)];rfl)) ?_;show bif aS (dF (rdG l 3)) (dU (rdG l 3)) now then _ else _
 cases hD3:aS (dF (rdG l 3)) (dU (rdG l 3)) now with
 |false=>exact hN (by unfold rcnd;rw[late,hD0,hD1,hD2,hD3];simp)
 |true=>
 exact hR (by unfold rcnd;rw[late,hO,hK,hD0,hD1,hD2,hD3];rfl)
theorem rmt_44{u s m:Int}{d:List UInt8}{x:Value}{now:Int}{l:List (List UInt8)}(hj:rdN l=4){R:Qz}(h:R (.exit 0) [some (.lst x l.length (strs l)),some (.int .i64 now),some (.ptr 0 0),some (.bool false),some (.slice 1 0 4 false 0 0),some (.int .i64 4)] (rmS u s m d l)):al Qq (RX1 rOK dOK cM dDV) 9 10 (ah 9) 104 250 [1,3,4,8,9,10] [.lst x l.length (strs l),.int .i64 now,.ptr 0 0,.bool false,.slice 1 0 4 false 0 0,.int .i64 4] (rmS u s m d l) R:=by
 unfold rmS at h ⊢;rw[rA_4 hj]at h ⊢;exact cast (rmo_44 rOK dOK cM dDV u s m d x l.length (strs l) now (dK (rdG l 0)) (dG (rdG l 0)) (dN (rdG l 0)) (dF (rdG l 0)) (dU (rdG l 0)) (dCa (rdG l 0)) (dK (rdG l 1)) (dG (rdG l 1)) (dN (rdG l 1)) (dF (rdG l 1)) (dU (rdG l 1)) (dCa (rdG l 1)) (dK (rdG l 2)) (dG (rdG l 2)) (dN (rdG l 2)) (dF (rdG l 2)) (dU (rdG l 2)) (dCa (rdG l 2)) (dK (rdG l 3)) (dG (rdG l 3)) (dN (rdG l 3)) (dF (rdG l 3)) (dU (rdG l 3)) (dCa (rdG l 3)) (rB l) (rNm l 1) (rNm l 2) (rNm l 3) R).symm h
structure MQX where
 u:Int
 s:Int
 m:Int
 d:List UInt8
 x:Value
 n:Nat
 cs:List V
 now:Int
 i:Nat
def mqV(z:MQX):List V:=[.lst z.x z.n z.cs,.int .i64 z.now,.ptr 0 0,.bool false,.slice 1 0 (rdN (z.cs.map ab)) false 0 0,.int .i64 z.i]
def mqJ(z:MQX):St:=rmS z.u z.s z.m z.d (z.cs.map ab)
def hH(z:MQX):Bool:=okLL z.n z.cs&&((u8B z.s&&u8B z.m)&&(Nat.ble 1 z.i&&Nat.ble z.i (rdN (z.cs.map ab))))
def mqMu(z:MQX):Nat:=rdN (z.cs.map ab)-z.i
def mqDec:List (Option V)→St→Option MQX
 |[some (.lst x n cs),some (.int .i64 now),some (.ptr 0 0),some (.bool false),some (.slice 1 0 _ false 0 0),some (.int .i64 1)],.row [.int .u8 u,.int .u8 s,.int .u8 m,.str d] _ _::_=>some ⟨u,s,m,d,x,n,cs,now,1⟩
 |_,_=>none
def tV(z:MQX)(b:Bool)(K:Exit→List V→St→Prop):Prop:=
 bif b then ∀j:Int,K .ret [.lst z.x z.n z.cs,.int .i64 z.now,.ptr 0 0,.bool true,.slice 1 0 (rdN (z.cs.map ab)) false 0 0,.int .i64 j] (mqJ z)else ∀j:Int,K (.exit 0) [.lst z.x z.n z.cs,.int .i64 z.now,.ptr 0 0,.bool false,.slice 1 0 (rdN (z.cs.map ab)) false 0 0,.int .i64 j] (mqJ z)
def rW:Asks MQX:=fun z K=>tV z (matV z.u z.s z.m z.d z.now z.cs z.i) K
theorem ren_rA(l:List (List UInt8)):renL [0,1,2,3,4,5] (rA l)=some (rA l):=by
 unfold rA rdT;have h4:=(cJ l).1;rcases(by omega:rdN l=0∨rdN l=1∨rdN l=2∨rdN l=3∨rdN l=4)with hj|hj|hj|hj|hj<;>rw[hj]<;>rfl
theorem ren_rN(l:List (List UInt8))(i:Nat):renL [0,1,2,3,4,5] (rNm l i)=some (rNm l i):=by
 unfold rNm nmR;cases Nat.blt i (rdN l)with
 |true=>rw[ae,fS];exact aC _ (br _)
 |false=>rfl
theorem mq_fits(x:Value)(n:Nat)(cs:List V)(u s m:Int)(d:List UInt8)(l:List (List UInt8))(now:Int)(b:Bool)(N:Nat)(j:Int):Fits 0 [.lst x n cs,.int .i64 now,.ptr 0 0,.bool b,.slice 1 0 N false 0 0,.int .i64 j] (rmS u s m d l) [some (.lst x n cs),some (.int .i64 now),some (.ptr 0 0),some (.bool b),some (.slice 1 0 N false 0 0),some (.int .i64 j)] (rmS u s m d l):=by
 refine⟨[0,1,2,3,4,5],[.lst x n cs,.int .i64 now,.ptr 0 0,.bool b,.slice 1 0 N false 0 0,.int .i64 j],rfl,rfl,FitsM.of ⟨.inr ⟨_,.inl rfl,rfl⟩,.inr ⟨.row (rA l) 31 6,.inl ?_,rfl⟩,.inr ⟨.ro true (rB l),.inl ?_,rfl⟩,.inr ⟨.ro true (rNm l 1),.inl ?_,rfl⟩,.inr ⟨.ro true (rNm l 2),.inl ?_,rfl⟩,.inr ⟨.ro true (rNm l 3),.inl ?_,rfl⟩,trivial⟩,by decide,fun i hi=>by omega⟩
 ·simp only[renB,ren_rA]
 ·rw[n7];simp only[renB,aC _ (br _)]
 ·simp only[renB,ren_rN]
 ·simp only[renB,ren_rN]
 ·simp only[renB,ren_rN]
theorem mq_roundOk(z:MQX)(hx:hH z=true):al Qq (RX1 rOK dOK cM dDV) 9 10 (ah 9) 104 250 [1,3,4,8,9,10] (mqV z) (mqJ z) (aD 0 hH mqV mqJ mqMu rW z):=by
 obtain⟨u,s,m,d,x,n,cs,now,i⟩:=z;unfold hH at hx;simp only[ad]at hx;have hx0:okLL n cs=true:=hx.1;have hu:(u8B s&&u8B m)=true:=by rw[ad];exact hx.2.1
 have p1:1≤i:=aw hx.2.2.1;have p2:i≤rdN (cs.map ab):=aw hx.2.2.2;have hx1:=hx0;unfold okLL at hx1;rw[ad]at hx1;obtain⟨l,rfl,rfl,p3,p4⟩:=cn hx1.1;have hal:l.all az=true:=by have:=hx1.2;unfold iK at this;rw[ai]at this;exact this
 rw[ai]at p2;have p5:=(cJ l).1;have out:∀K,rW ⟨u,s,m,d,x,l.length,strs l,now,i⟩ K→tV ⟨u,s,m,d,x,l.length,strs l,now,i⟩ (matF u s m d now l (rdN l-i) i) K:=fun K hK=>by
  have hK:tV ⟨u,s,m,d,x,l.length,strs l,now,i⟩ (matF u s m d now ((strs l).map ab) (rdN ((strs l).map ab)-i) i) K:=hK;rw[ai]at hK;exact hK
 have fits:∀b j,Fits 0 [.lst x l.length (strs l),.int .i64 now,.ptr 0 0,.bool b,.slice 1 0 (rdN ((strs l).map ab)) false 0 0,.int .i64 j] (rmS u s m d ((strs l).map ab)) [some (.lst x l.length (strs l)),some (.int .i64 now),some (.ptr 0 0),some (.bool b),some (.slice 1 0 (rdN l) false 0 0),some (.int .i64 j)] (rmS u s m d l):=fun b j=>by
  rw[ai];exact mq_fits x l.length (strs l) u s m d l now b (rdN l) j
 have ex:rdN l=i→aD 0 hH mqV mqJ mqMu rW ⟨u,s,m,d,x,l.length,strs l,now,i⟩ (.exit 0) [some (.lst x l.length (strs l)),some (.int .i64 now),some (.ptr 0 0),some (.bool false),some (.slice 1 0 (rdN l) false 0 0),some (.int .i64 i)] (rmS u s m d l):=fun hi=>by
  refine⟨_,_,fun K hK=>?_,fits false i⟩;have hK:=out K hK;rw[show rdN l-i=0 by omega]at hK;exact hK i
 have step:i<rdN l→matF u s m d now l (rdN l-i) i=(bif rcnd u s m d now l i then true else matF u s m d now l (rdN l-(i+1)) (i+1)):=fun hi=>by
  have:=(cJ l).2;rw[show rdN l-i=(rdN l-(i+1))+1 by omega,matF,lE (by omega)];rfl
 have next:i<rdN l→rcnd u s m d now l i=false→aD 0 hH mqV mqJ mqMu rW ⟨u,s,m,d,x,l.length,strs l,now,i⟩ .normal [some (.lst x l.length (strs l)),some (.int .i64 now),some (.ptr 0 0),some (.bool false),some (.slice 1 0 (rdN l) false 0 0),some (.int .i64 (i+1:Nat))] (rmS u s m d l):=fun hi e=>by
  refine⟨⟨u,s,m,d,x,l.length,strs l,now,i+1⟩,?_,fits false _,by simp only[mqMu,ai];omega,fun K hK=>?_⟩
  ·unfold hH;rw[ai,hx0,hu,ag (show 1≤i+1 by omega),ag (show i+1≤rdN l by omega)];rfl
  ·have hK:=out K hK;rw[step hi,e]at hK;show tV ⟨u,s,m,d,x,l.length,strs l,now,i+1⟩ (matF u s m d now ((strs l).map ab) (rdN ((strs l).map ab)-(i+1)) (i+1)) K;rw[ai];exact hK
 have yes:i<rdN l→rcnd u s m d now l i=true→aD 0 hH mqV mqJ mqMu rW ⟨u,s,m,d,x,l.length,strs l,now,i⟩ .ret [some (.lst x l.length (strs l)),some (.int .i64 now),some (.ptr 0 0),some (.bool true),some (.slice 1 0 (rdN l) false 0 0),some (.int .i64 i)] (rmS u s m d l):=fun hi e=>by
  refine⟨_,_,fun K hk=>?_,fits true i⟩;have hk:=out K hk;rw[step hi,e]at hk;exact hk i
 show al Qq (RX1 rOK dOK cM dDV) 9 10 (ah 9) 104 250 [1,3,4,8,9,10] [.lst x l.length (strs l),.int .i64 now,.ptr 0 0,.bool false,.slice 1 0 (rdN ((strs l).map ab)) false 0 0,.int .i64 i] (rmS u s m d ((strs l).map ab)) _;rw[ai];rcases(by omega:rdN l=1∨rdN l=2∨rdN l=3∨rdN l=4)with hj|hj|hj|hj
 ·rw[hj]at ex next yes p2 ⊢
  obtain rfl:i=1:=by omega
  exact rmt_11 hj (ex rfl)
 ·rw[hj]at ex next yes p2 ⊢
  rcases(by omega:i=1∨i=2)with rfl|rfl
  ·exact rmt_21 hj hu hal (next (by omega)) (yes (by omega))
  ·exact rmt_22 hj (ex rfl)
 ·rw[hj]at ex next yes p2 ⊢
  rcases(by omega:i=1∨i=2∨i=3)with rfl|rfl|rfl
  ·exact rmt_31 hj hu hal (next (by omega)) (yes (by omega))
  ·exact rmt_32 hj hu hal (next (by omega)) (yes (by omega))
  ·exact rmt_33 hj (ex rfl)
 ·rw[hj]at ex next yes p2 ⊢
  rcases(by omega:i=1∨i=2∨i=3∨i=4)with rfl|rfl|rfl|rfl
  ·exact rmt_41 hj hu hal (next (by omega)) (yes (by omega))
  ·exact rmt_42 hj hu hal (next (by omega)) (yes (by omega))
  ·exact rmt_43 hj hu hal (next (by omega)) (yes (by omega))
  ·exact rmt_44 hj (ex rfl)
def lkMQ:Nat→Trans→Trans:=ba 250 (bK 0 (szOf Qq 104) [1,3,4,8,9,10] mqDec hH mqV mqJ rW) (ah 9)
theorem lkMQ_ok:aQ Qq 0 lkMQ 104:=by
 unfold lkMQ;exact bB (aY 9 0 104) (by kernel_rfl) fun f st Q h=>bc (P:=Qq) (T:=RX1 rOK dOK cM dDV) (k:=0) (lim:=9) (n:=10) (g:=104) (p0:=250) (lk:=ah 9) aA RX1_ok (bf 9 _ _) mqMu mq_roundOk h
def rqP(l:List (List UInt8))(j:Nat)(T a b c:List V):V×St:=(.slice 0 0 j false 0 0,[.row (rdA (rdG l 0) 1 T) 31 6,.ro true (strs (dL (rdG l 0))),.ro true a,.ro true b,.ro true c])
def km(l:List (List UInt8)):Nat→V×St
 |0=>(.nilSlice,[])
 |1=>rqP l 1 [] [] [] []
 |2=>rqP l 2 (rdA (rdG l 1) 2 []) (strs (dL (rdG l 1))) [] []
 |3=>rqP l 3 (rdA (rdG l 1) 2 (rdA (rdG l 2) 3 [])) (strs (dL (rdG l 1))) (strs (dL (rdG l 2))) []
 |_=>rqP l 4 (rdA (rdG l 1) 2 (rdA (rdG l 2) 3 (rdA (rdG l 3) 4 []))) (strs (dL (rdG l 1))) (strs (dL (rdG l 2))) (strs (dL (rdG l 3)))
def rreadP:List V→Option (Qx)
 |[.lst _ n cs]=>some [(okLL n cs&&Nat.beq (rdN (cs.map ab)) 0,km (cs.map ab) 0),(okLL n cs&&Nat.beq (rdN (cs.map ab)) 1,km (cs.map ab) 1),(okLL n cs&&Nat.beq (rdN (cs.map ab)) 2,km (cs.map ab) 2),(okLL n cs&&Nat.beq (rdN (cs.map ab)) 3,km (cs.map ab) 3),(okLL n cs&&Nat.beq (rdN (cs.map ab)) 4,km (cs.map ab) 4)]
 |_=>none
theorem rreadP_ok(args:List V)(L:Qx)(o:V×St)(h:rreadP args=some L)(ho:aL L=some o):FnSat Qq 10 args [] (Is o):=by
 unfold rreadP at h;split at h
 ·rename_i x n cs;cases h;cases hk:okLL n cs with
  |false=>rw[hk]at ho;simp[aL]at ho
  |true=>
  rw[hk,aH]at ho;simp only[aH]at ho;have h4:=(cJ (cs.map ab)).1;refine rreadU_ok [.lst x n cs] _ o rfl ?_;rw[hk,←ho];unfold rqU rdT nmR;rcases(by omega:rdN (cs.map ab)=0∨rdN (cs.map ab)=1∨rdN (cs.map ab)=2∨rdN (cs.map ab)=3∨rdN (cs.map ab)=4)with hj|hj|hj|hj|hj<;>simp only[km,rqP,hj]<;>rfl
 ·cases h
def MQ1:Tab:=⟨addT (addT noT 10 rreadP) 159 rofT,addS noL 46 tw,cI (aT 9) 104 0 lkMQ⟩
theorem MQ1_ok:TabOk3 Qq MQ1:=⟨aR (aR aJ rreadP_ok) rof_ok,bP aK rE,bq (au 9) lkMQ_ok⟩
def cY(cs:List V):=rdG (List.map ab cs) 0
def kL(cs:List V):=aF 1 (strs (dL (cY cs)))
def l9(cs:List V):=List.take (dN (cY cs)*1) (kL cs)
def rc(u s m:Int)(d:List UInt8):=[V.int u8 u,V.int u8 s,V.int u8 m,V.str d]
def zha_1(u s m:Int)(d:List UInt8)(cs:List V):=[Blk.row (rc u s m d) 72 4,Blk.row (rA (List.map ab cs)) 31 6,Blk.ro true (rB (List.map ab cs)),Blk.ro true (rNm (List.map ab cs) 1),Blk.ro true (rNm (List.map ab cs) 2),Blk.ro true (rNm (List.map ab cs) 3)]
def eX(cs:List V):=rdG (List.map ab cs) 1
def zha_4(x:Value)(n:Nat)(cs:List V)(now:Int):=[V.lst x n cs,V.int i64 now,V.ptr 0 0,V.bool false,V.slice 1 0 (rdN (List.map ab cs)) false 0 0,V.int i64 1]
def zha_5(cs:List V)(h:List UInt8):=(List.map ab (l9 cs)).length.ble 9223372036854775807&&((List.map ab (l9 cs)).all az&&az h)
def gS(cs:List V):=rdG (List.map ab cs) 2
def zha_9(cs:List V):=(l9 cs).all ar&&(l9 cs).length.beq (dN (cY cs))
theorem rmt_tree(u s m:Int)(d:List UInt8)(x:Value)(n:Nat)(cs:List V)(h:List UInt8)(now:Int)(R:V→Prop):runW Qq MQ1 9 10 104 [.agg [.int .u8 u,.int .u8 s,.int .u8 m,.str d],.lst x n cs,.str h,.int .i64 now] R=
 (
 bif u==3 then bif decide ((↑n:Int)>0)then bif true&&decide (0<(↑n:Int))then bif Nat.blt 0 cs.length then bif ar (cs.getD 0 (.bool false))then
 bif az (ab (cs.getD 0 (.bool false)))&&(u8B s&&u8B m)then R (.bool (ofB u s m (d) (ab (cs.getD 0 (.bool false)))))else False else False else
 False else False else R (.bool false)else bif okLL n cs&&(rdN (List.map ab cs)).beq 0 then bif u !=2 then R (.bool false)else R (.bool false)else
 bif okLL n cs&&(rdN (List.map ab cs)).beq 1 then bif u !=2 then R (.bool false)else bif (dN (cY cs)*1).ble (kL cs).length&&(zha_9 cs)&&
 (zha_5 cs h)then bif !hasH (List.map ab (l9 cs)) h then R (.bool false)else Fits 0 (zha_4 x n cs now) (zha_1 u s m d cs) [some (.lst x n cs),some
 (.int i64 now),some (.ptr 0 0),some (.bool false),some (.slice 1 0 1 false 0 0),some (.int i64 1)] [.row (rc u s m d) 72 4,
 .row [.str (dK (cY cs)),.str (dG (cY cs)),.nos 2 (dN (cY cs)),.int i64 (dF (cY cs)),.int i64 (dU (cY cs)),.bool (dCa
 (cY cs))] 31 6,.ro true (kL cs),.ro true [],.ro true [],.ro true []]∧bif hH
 {u:=u,s:=s,m:=m,d:=d,x:=x,n:=n,cs:=cs,now:=now,i:=1}then bif matV u s m d now cs 1 then ∀(j:Int),R (.bool true)else ∀(j:
 Int),R (.bool false)else False else False else bif okLL n cs&&(rdN (List.map ab cs)).beq 2 then bif u !=2 then R (.bool false)else bif (dN (cY cs)
 *1).ble (kL cs).length&&(zha_9 cs)&&(zha_5 cs h)then bif !hasH (List.map ab (l9 cs)) h then R (.bool false)else Fits 0 (zha_4 x n cs now)
 (zha_1 u s m d cs) [some (.lst x n cs),some (.int i64 now),some (.ptr 0 0),some (.bool false),some (.slice 1 0 2 false 0 0),some (.int
 i64 1)] [.row (rc u s m d) 72 4,.row [.str (dK (cY cs)),.str (dG (cY cs)),.nos 2 (dN (cY cs)),.int i64 (dF (cY cs)),
 .int i64 (dU (cY cs)),.bool (dCa (cY cs)),.str (dK (eX cs)),.str (dG (eX cs)),.nos 3 (dN (eX cs)),.int i64 (dF (eX
 cs)),.int i64 (dU (eX cs)),.bool (dCa (eX cs))] 31 6,.ro true (kL cs),.ro true (aF 1 (strs (dL (eX cs)))),.ro true [],
 .ro true []]∧bif hH {u:=u,s:=s,m:=m,d:=d,x:=x,n:=n,cs:=cs,now:=now,i:=1}then bif matV u s m d now cs 1 then ∀(j:Int),R
 (.bool true)else ∀(j:Int),R (.bool false)else False else False else bif okLL n cs&&(rdN (List.map ab cs)).beq 3 then bif u !=2 then R (.bool
 false)else bif (dN (cY cs)*1).ble (kL cs).length&&(zha_9 cs)&&(zha_5 cs h)then bif !hasH (List.map ab (l9 cs)) h then R (.bool false)else
 Fits 0 (zha_4 x n cs now) (zha_1 u s m d cs) [some (.lst x n cs),some (.int i64 now),some (.ptr 0 0),some (.bool false),some (.slice 1 0 3 false
 0 0),some (.int i64 1)] [.row (rc u s m d) 72 4,.row [.str (dK (cY cs)),.str (dG (cY cs)),.nos 2 (dN (cY cs)),.int
 i64 (dF (cY cs)),.int i64 (dU (cY cs)),.bool (dCa (cY cs)),.str (dK (eX cs)),.str (dG (eX cs)),.nos 3 (dN (eX cs)),
 .int i64 (dF (eX cs)),.int i64 (dU (eX cs)),.bool (dCa (eX cs)),.str (dK (gS cs)),.str (dG (gS cs)),.nos 4 (dN (gS
 cs)),.int i64 (dF (gS cs)),.int i64 (dU (gS cs)),.bool (dCa (gS cs))] 31 6,.ro true (kL cs),.ro true (aF 1 (strs
 (dL (eX cs)))),.ro true (aF 1 (strs (dL (gS cs)))),.ro true []]∧bif hH
 {u:=u,s:=s,m:=m,d:=d,x:=x,n:=n,cs:=cs,now:=now,i:=1}then bif matV u s m d now cs 1 then ∀(j:Int),R (.bool true)else ∀(j:
 Int),R (.bool false)else False else False else bif okLL n cs&&(rdN (List.map ab cs)).beq 4 then bif u !=2 then R (.bool false)else bif (dN (cY cs)
 *1).ble (kL cs).length&&(zha_9 cs)&&(zha_5 cs h)then bif !hasH (List.map ab (l9 cs)) h then R (.bool false)else Fits 0 (zha_4 x n cs now)
 (zha_1 u s m d cs) [some (.lst x n cs),some (.int i64 now),some (.ptr 0 0),some (.bool false),some (.slice 1 0 4 false 0 0),some (.int
 i64 1)] [.row (rc u s m d) 72 4,.row [.str (dK (cY cs)),.str (dG (cY cs)),.nos 2 (dN (cY cs)),.int i64 (dF (cY cs)),
 .int i64 (dU (cY cs)),.bool (dCa (cY cs)),.str (dK (eX cs)),.str (dG (eX cs)),.nos 3 (dN (eX cs)),.int i64 (dF (eX
 cs)),.int i64 (dU (eX cs)),.bool (dCa (eX cs)),.str (dK (gS cs)),.str (dG (gS cs)),.nos 4 (dN (gS cs)),.int i64 (dF
 (gS cs)),.int i64 (dU (gS cs)),.bool (dCa (gS cs)),.str (dK (rdG (List.map ab cs) 3)),.str (dG (rdG (List.map ab cs) 3)),.nos
 5 (dN (rdG (List.map ab cs) 3)),.int i64 (dF (rdG (List.map ab cs) 3)),.int i64 (dU (rdG (List.map ab cs) 3)),.bool (dCa (rdG
 (List.map ab cs) 3))] 31 6,.ro true (kL cs),.ro true (aF 1 (strs (dL (eX cs)))),.ro true (aF 1 (strs (dL (gS cs)))),.ro true
 (aF 1 (strs (dL (rdG (List.map ab cs) 3))))]∧bif hH {u:=u,s:=s,m:=m,d:=d,x:=x,n:=n,cs:=cs,now:=now,i:=1}then bif matV u
 s m d now cs 1 then ∀(j:Int),R (.bool true)else ∀(j:Int),R (.bool false)else False else False else False):=by kernel_rfl
theorem dL_okLen(s:List UInt8):(dL s).all az=true:=by
 unfold dL dCd;cases hc:decR s with
 |none=>rfl
 |some c=>
  have h:=(ut hc).2.2.1;rw[ad]at h;rw[List.all_eq_true];intro x hx;have:=jh (List.all_eq_true.1 h.2 x hx);exact am (by omega)
def rmatQ:List V→Option (Qx)
 |[.agg [.int .u8 u,.int .u8 s,.int .u8 m,.str d],.lst _ n cs,.str h,.int .i64 now]=>some [(okLL n cs&&az h&&(u8B s&&u8B m),(.bool (matB u s m d (cs.map ab) h now),[]))]
 |_=>none
theorem rmatQ_ok(args:List V)(L:Qx)(o:V×St)(h:rmatQ args=some L)(ho:aL L=some o):FnSat Qq 104 args [] (Is o):=by
 unfold rmatQ at h;split at h
 ·rename_i u s m d x n cs h now;cases h;obtain⟨hk,rfl⟩:=aO ho;rw[ad,ad]at hk;obtain⟨⟨hx0,hh⟩,hu⟩:=hk;have hx1:=hx0;unfold okLL at hx1;rw[ad]at hx1;obtain⟨l,rfl,rfl,p3,p4⟩:=cn hx1.1;have hal:l.all az=true:=by have:=hx1.2;unfold iK at this;rw[ai]at this;exact this
  refine ax (lim:=9) (n:=10) aA MQ1_ok rfl rfl ?_;refine cast (rmt_tree u s m d x l.length (strs l) h now _).symm ?_;unfold zha_9 gS zha_5 zha_4 eX zha_1 rc l9 kL cY;unfold matB;rw[ai];cases hu3:u==3 with
  |true=>
   rw[ae,ae];cases l with
   |nil=>exact ac (fun e=>absurd (aN e) (by simp)) (fun _=>rfl)
   |cons a r=>
    have e1:decide (((a::r).length:Int)>0)=true:=am (by rw[bi];omega);have ha:az a=true:=List.all_eq_true.1 hal a List.mem_cons_self;rw[e1,ae];refine aa rfl (aa rfl (aa rfl (aa ?_ rfl)));show(az a&&(u8B s&&u8B m))=true;rw[ha,hu];rfl
  |false=>
  rw[ak,ak,hx0,aH,aH,aH,aH,aH];have h4:=(cJ l).1;have q1:(dN (rdG l 0)*1).ble (aF 1 (strs (dL (rdG l 0)))).length=true:=by rw[fS,aE,Nat.mul_one];exact ag (Nat.le_refl _)
  have q2:List.take (dN (rdG l 0)*1) (aF 1 (strs (dL (rdG l 0))))=strs (dL (rdG l 0)):=by rw[fS,Nat.mul_one];exact cz (by rw[aE];exact Nat.le_refl _)
  have q3:(strs (dL (rdG l 0))).length.beq (dN (rdG l 0))=true:=by rw[aE];exact a9 _
  have q4:(dL (rdG l 0)).length.ble 9223372036854775807=true:=ag (by have:=i9 (rdG l 0);omega);have pre:rdN l≠0→hH ⟨u,s,m,d,x,l.length,strs l,now,1⟩=true:=fun h0=>by
   unfold hH;rw[ai,hx0,hu,ag (show 1≤rdN l by omega)];rfl
  have fin:∀{st:St} {j:Nat},rdN l=j→j≠0→rmS u s m d l=st→(u==2)=true→hasH (dL (rdG l 0)) h=true→(Fits 0 [.lst x l.length (strs l),.int .i64 now,.ptr 0 0,.bool false,.slice 1 0 (rdN l) false 0 0,.int .i64 1] (rmS u s m d l) [some (.lst x l.length (strs l)),some (.int .i64 now),some (.ptr 0 0),some (.bool false),some (.slice 1 0 j false 0 0),some (.int .i64 1)] st∧bif hH ⟨u,s,m,d,x,l.length,strs l,now,1⟩then bif matV u s m d now (strs l) 1 then ∀(j:Int),V.bool true=V.bool (bif u==2 then(!Nat.beq (rdN l) 0&&(hasH (dL (rdG l 0)) h&&matF u s m d now l (rdN l-1) 1))else false)else ∀(j:Int),V.bool false=V.bool (bif u==2 then(!Nat.beq (rdN l) 0&&(hasH (dL (rdG l 0)) h&&matF u s m d now l (rdN l-1) 1))else false)else False):=fun{st j} hj h0 hs hu2 hh=>by
   subst hj hs;have n0:Nat.beq (rdN l) 0=false:=by
    cases hb:Nat.beq (rdN l) 0 with
    |false=>rfl
    |true=>exact absurd (aP hb) h0
   refine⟨mq_fits x l.length (strs l) u s m d l now false (rdN l) 1,aa (pre h0) ?_⟩;unfold matV;rw[ai,hh,n0,hu2];cases hm:matF u s m d now l (rdN l-1) 1 with
   |true=>intro j;rfl
   |false=>intro j;rfl
  have no2:(u !=2)=true→V.bool false=V.bool (bif u==2 then(!Nat.beq (rdN l) 0&&(hasH (dL (rdG l 0)) h&&matF u s m d now l (rdN l-1) 1))else false):=fun e=>by rw[(by simpa using e:(u==2)=false)];rfl
  have no:hasH (dL (rdG l 0)) h=false→V.bool false=V.bool (bif u==2 then(!Nat.beq (rdN l) 0&&(hasH (dL (rdG l 0)) h&&matF u s m d now l (rdN l-1) 1))else false):=fun e=>by rw[e,Bool.false_and,bL];cases u==2<;>rfl
  rw[q1,q2,bD,q3,ai,q4,dL_okLen,hh];have nb:∀{k:Nat} {A:Prop},rdN l≠k→Nat.beq (rdN l) k=true→A:=fun h e=>absurd (aP e) h;have yb:∀{k:Nat} {A B:Prop},rdN l=k→A→(bif Nat.beq (rdN l) k then A else B):=fun h a=>by rw[h,a9];exact a
  rcases(by omega:rdN l=0∨rdN l=1∨rdN l=2∨rdN l=3∨rdN l=4)with hj|hj|hj|hj|hj
  ·refine yb hj (ac (fun e=>no2 e) (fun e=>?_));rw[hj];cases u==2<;>rfl
  ·refine ac (fun e=>nb (by omega) e) (fun _=>?_);refine yb hj (ac (fun e=>no2 e) (fun e2=>aa rfl ?_));exact ac (fun e=>no (by simpa using e)) (fun e=>fin hj (by omega) (by unfold rmS rA rB rNm nmR rdT;rw[hj];rfl) (by simpa using e2) (by simpa using e))
  ·refine ac (fun e=>nb (by omega) e) (fun _=>?_);refine ac (fun e=>nb (by omega) e) (fun _=>?_);refine yb hj (ac (fun e=>no2 e) (fun e2=>aa rfl ?_));exact ac (fun e=>no (by simpa using e)) (fun e=>fin hj (by omega) (by unfold rmS rA rB rNm nmR rdT;rw[hj];rfl) (by simpa using e2) (by simpa using e))
  ·refine ac (fun e=>nb (by omega) e) (fun _=>?_);refine ac (fun e=>nb (by omega) e) (fun _=>?_);refine ac (fun e=>nb (by omega) e) (fun _=>?_);refine yb hj (ac (fun e=>no2 e) (fun e2=>aa rfl ?_));exact ac (fun e=>no (by simpa using e)) (fun e=>fin hj (by omega) (by unfold rmS rA rB rNm nmR rdT;rw[hj];rfl) (by simpa using e2) (by simpa using e))
  ·refine ac (fun e=>nb (by omega) e) (fun _=>?_);refine ac (fun e=>nb (by omega) e) (fun _=>?_);refine ac (fun e=>nb (by omega) e) (fun _=>?_);refine ac (fun e=>nb (by omega) e) (fun _=>?_);refine yb hj (ac (fun e=>no2 e) (fun e2=>aa rfl ?_));exact ac (fun e=>no (by simpa using e)) (fun e=>fin hj (by omega) (by unfold rmS rA rB rNm nmR rdT;rw[hj];rfl) (by simpa using e2) (by simpa using e))
 ·cases h
def RU0:Tab:=⟨addT noT 105 rusP,noL,aT 9⟩
theorem RU0_ok:TabOk3 Qq RU0:=⟨aR aJ rus_ok,aK,au 9⟩
def eA(cs:List V):=aq (cs.getD 10 (V.bool false))
def ez(cs:List V):=aq (cs.getD 9 (V.bool false))
def dw(cs:List V):=cs.getD 11 (V.bool false)
def dv(cs:List V):=cs.getD 8 (V.bool false)
def fR(cs:List V):=aq (cs.getD 5 (V.bool false))
def fQ(cs:List V):=aq (cs.getD 6 (V.bool false))
def gR(cs:List V):=aq (cs.getD 1 (V.bool false))
def gQ(cs:List V):=aq (cs.getD 2 (V.bool false))
def gP(cs:List V):=aq (cs.getD 4 (V.bool false))
def gO(cs:List V):=ab (cs.getD 7 (V.bool false))
def iD(cs:List V):=aq (cs.getD 0 (V.bool false))
def iC(cs:List V):=ab (cs.getD 3 (V.bool false))
def zia_0(cs:List V):=[Blk.dead,Blk.dead,Blk.dead,Blk.dead,Blk.dead,Blk.row [V.int u8 (iD cs),V.int u8 (gR cs),V.int u8 (gQ cs),V.str (iC cs),V.int u8 (gP cs),V.int u8 (fR cs),V.int u8 (fQ cs),V.str (gO cs),V.int u8 (aq (dv cs)),V.int u8 (ez cs),V.int u8 (eA cs),V.str (ab (dw cs))] 72 4]
def zia_1(cs:List V):=[Blk.dead,Blk.dead,Blk.dead,Blk.row [V.int u8 (iD cs),V.int u8 (gR cs),V.int u8 (gQ cs),V.str (iC cs),V.int u8 (gP cs),V.int u8 (fR cs),V.int u8 (fQ cs),V.str (gO cs)] 72 4]
def el(cs:List V):=cs.getD 13 (V.bool false)
def dT(cs:List V):=aq (el cs)
def ej(cs:List V):=cs.getD 14 (V.bool false)
def dS(cs:List V):=aq (ej cs)
def cd(cs:List V):=cs.getD 12 (V.bool false)
def cb(cs:List V):=cs.getD 15 (V.bool false)
def zia_2(cs:List V):=[Blk.dead,Blk.dead,Blk.dead,Blk.dead,Blk.dead,Blk.dead,Blk.dead,Blk.row [V.int u8 (iD cs),V.int u8 (gR cs),V.int u8 (gQ cs),V.str (iC cs),V.int u8 (gP cs),V.int u8 (fR cs),V.int u8 (fQ cs),V.str (gO cs),V.int u8 (aq (dv cs)),V.int u8 (ez cs),V.int u8 (eA cs),V.str (ab (dw cs)),V.int u8 (aq (cd cs)),V.int u8 (dT cs),V.int u8 (dS cs),V.str (ab (cb cs))] 72 4]
def zia_3(cs:List V):=[Blk.dead,Blk.dead,Blk.dead,Blk.row [V.int u8 (iD cs),V.int u8 (gR cs),V.int u8 (gQ cs),V.str (iC cs),V.int u8 (aq (dv cs)),V.int u8 (ez cs),V.int u8 (eA cs),V.str (ab (dw cs))] 72 4]
def zia_4(cs:List V):=[Blk.dead,Blk.dead,Blk.dead,Blk.row [V.int u8 (gP cs),V.int u8 (fR cs),V.int u8 (fQ cs),V.str (gO cs),V.int u8 (aq (dv cs)),V.int u8 (ez cs),V.int u8 (eA cs),V.str (ab (dw cs))] 72 4]
def rb(cs:List V):=[Blk.dead,Blk.row [V.int u8 (iD cs),V.int u8 (gR cs),V.int u8 (gQ cs),V.str (iC cs)] 72 4]
def zia_8(cs:List V):=[Blk.dead,Blk.row [V.int u8 (gP cs),V.int u8 (fR cs),V.int u8 (fQ cs),V.str (gO cs)] 72 4]
def zia_9(cs:List V):=[Blk.dead,Blk.dead,Blk.dead,Blk.dead,Blk.dead,Blk.row [V.int u8 (iD cs),V.int u8 (gR cs),V.int u8 (gQ cs),V.str (iC cs),V.int u8 (aq (dv cs)),V.int u8 (ez cs),V.int u8 (eA cs),V.str (ab (dw cs)),V.int u8 (aq (cd cs)),V.int u8 (dT cs),V.int u8 (dS cs),V.str (ab (cb cs))] 72 4]
def zia_10(cs:List V):=[Blk.dead,Blk.dead,Blk.dead,Blk.dead,Blk.dead,Blk.row [V.int u8 (gP cs),V.int u8 (fR cs),V.int u8 (fQ cs),V.str (gO cs),V.int u8 (aq (dv cs)),V.int u8 (ez cs),V.int u8 (eA cs),V.str (ab (dw cs)),V.int u8 (aq (cd cs)),V.int u8 (dT cs),V.int u8 (dS cs),V.str (ab (cb cs))] 72 4]
def zia_11(cs:List V):=[Blk.dead,Blk.dead,Blk.dead,Blk.dead,Blk.dead,Blk.row [V.int u8 (iD cs),V.int u8 (gR cs),V.int u8 (gQ cs),V.str (iC cs),V.int u8 (gP cs),V.int u8 (fR cs),V.int u8 (fQ cs),V.str (gO cs),V.int u8 (aq (cd cs)),V.int u8 (dT cs),V.int u8 (dS cs),V.str (ab (cb cs))] 72 4]
def sX(cs:List V):=[Blk.dead,Blk.row [V.int u8 (aq (dv cs)),V.int u8 (ez cs),V.int u8 (eA cs),V.str (ab (dw cs))] 72 4]
def zia_17(cs:List V):=[Blk.dead,Blk.dead,Blk.dead,Blk.row [V.int u8 (iD cs),V.int u8 (gR cs),V.int u8 (gQ cs),V.str (iC cs),V.int u8 (aq (cd cs)),V.int u8 (dT cs),V.int u8 (dS cs),V.str (ab (cb cs))] 72 4]
def zia_18(cs:List V):=[Blk.dead,Blk.dead,Blk.dead,Blk.row [V.int u8 (gP cs),V.int u8 (fR cs),V.int u8 (fQ cs),V.str (gO cs),V.int u8 (aq (cd cs)),V.int u8 (dT cs),V.int u8 (dS cs),V.str (ab (cb cs))] 72 4]
def zia_19(cs:List V):=[Blk.dead,Blk.dead,Blk.dead,Blk.row [V.int u8 (aq (dv cs)),V.int u8 (ez cs),V.int u8 (eA cs),V.str (ab (dw cs)),V.int u8 (aq (cd cs)),V.int u8 (dT cs),V.int u8 (dS cs),V.str (ab (cb cs))] 72 4]
def ey:=V.slice 3 0 2 false 0 0
def fk:=V.slice 1 0 1 false 0 0
theorem rusa_tree(x:Value)(n:Nat)(cs:List V)(R:V→St→Prop):runM Qq RU0 9 10 55 [.lst x n cs] (fun v st=>R v (vis v st))=
 (
 bif decide (0<(↑n:Int))then bif true&&decide (0<(↑n:Int))then bif Nat.ble 4 cs.length then bif ao u8 (cs.getD 0 (.bool false))then bif
 ao u8 (cs.getD 1 (.bool false))then bif ao u8 (cs.getD 2 (.bool false))then bif ar (cs.getD 3 (.bool false))then bif u8B
 (gR cs)&&u8B (gQ cs)then bif usB (iD cs) (gR cs) (gQ cs) (iC cs)then bif true&&decide (0<(↑n:Int))then bif Nat.ble 4 cs.length
 then bif ao u8 (cs.getD 0 (.bool false))then bif ao u8 (cs.getD 1 (.bool false))then bif ao u8 (cs.getD 2 (.bool false))
 then bif ar (cs.getD 3 (.bool false))then bif decide (1<(↑n:Int))then bif true&&decide (1<(↑n:Int))then bif Nat.ble 8 cs.length then bif ao
 u8 (cs.getD 4 (.bool false))then bif ao u8 (cs.getD 5 (.bool false))then bif ao u8 (cs.getD 6 (.bool false))then bif ar
 (cs.getD 7 (.bool false))then bif u8B (fR cs)&&u8B (fQ cs)then bif usB (gP cs) (fR cs) (fQ cs) (gO cs)then bif true&&decide (1<
 (↑n:Int))then bif Nat.ble 8 cs.length then bif ao u8 (cs.getD 4 (.bool false))then bif ao u8 (cs.getD 5 (.bool false))then bif
 ao u8 (cs.getD 6 (.bool false))then bif ar (cs.getD 7 (.bool false))then bif decide (2<(↑n:Int))then bif true&&decide (2<(↑n:Int))
 then bif Nat.ble 12 cs.length then bif ao u8 (dv cs)then bif ao u8 (cs.getD 9 (.bool false))then bif ao u8 (cs.getD 10
 (.bool false))then bif ar (dw cs)then bif u8B (ez cs)&&u8B (eA cs)then bif usB (aq (dv cs)) (ez cs) (eA cs) (ab (dw
 cs))then bif true&&decide (2<(↑n:Int))then bif Nat.ble 12 cs.length then bif ao u8 (dv cs)then bif ao u8 (cs.getD 9 (.bool
 false))then bif ao u8 (cs.getD 10 (.bool false))then bif ar (dw cs)then bif decide (3<(↑n:Int))then bif true&&decide (3<(↑n:
 Int))then bif Nat.ble 16 cs.length then bif ao u8 (cd cs)then bif ao u8 (el cs)then bif ao u8 (ej cs)then bif
 ar (cb cs)then bif u8B (dT cs)&&u8B (dS cs)then bif usB (aq (cd cs)) (dT cs) (dS cs) (ab (cb cs))then bif true&&decide
 (3<(↑n:Int))then bif Nat.ble 16 cs.length then bif ao u8 (cd cs)then bif ao u8 (el cs)then bif ao u8 (ej
 cs)then bif ar (cb cs)then bif decide (4<(↑n:Int))then R (.slice 7 0 4 false 0 0) (zia_2 cs)else R (.slice 7 0 4 false 0 0) (zia_2 cs)else
 False else False else False else False else False else False else bif decide (4<(↑n:Int))then R (.slice 5 0 3 false 0 0) (zia_0 cs)else R (.slice 5 0 3
 false 0 0) (zia_0 cs)else False else False else False else False else False else False else False else R (.slice 5 0 3 false 0 0) (zia_0 cs)else False else
 False else False else False else False else False else bif decide (3<(↑n:Int))then bif true&&decide (3<(↑n:Int))then bif Nat.ble 16 cs.length then
 bif ao u8 (cd cs)then bif ao u8 (el cs)then bif ao u8 (ej cs)then bif ar (cb cs)then bif u8B (dT
 cs)&&u8B (dS cs)then bif usB (aq (cd cs)) (dT cs) (dS cs) (ab (cb cs))then bif true&&decide (3<(↑n:Int))then bif Nat.ble 16
 cs.length then bif ao u8 (cd cs)then bif ao u8 (el cs)then bif ao u8 (ej cs)then bif ar (cb cs)then
 bif decide (4<(↑n:Int))then R (.slice 5 0 3 false 0 0) (zia_11 cs)else R (.slice 5 0 3 false 0 0) (zia_11 cs)else False else False else False else False
 else False else False else bif decide (4<(↑n:Int))then R ey (zia_1 cs)else R ey (zia_1 cs)else False else False else False else False else False
 else False else False else R ey (zia_1 cs)else False else False else False else False else False else False else False else R ey (zia_1 cs)else False
 else False else False else False else False else False else bif decide (2<(↑n:Int))then bif true&&decide (2<(↑n:Int))then bif Nat.ble 12 cs.length
 then bif ao u8 (dv cs)then bif ao u8 (cs.getD 9 (.bool false))then bif ao u8 (cs.getD 10 (.bool false))then bif
 ar (dw cs)then bif u8B (ez cs)&&u8B (eA cs)then bif usB (aq (dv cs)) (ez cs) (eA cs) (ab (dw cs))then bif true&&
 decide (2<(↑n:Int))then bif Nat.ble 12 cs.length then bif ao u8 (dv cs)then bif ao u8 (cs.getD 9 (.bool false))then bif
 ao u8 (cs.getD 10 (.bool false))then bif ar (dw cs)then bif decide (3<(↑n:Int))then bif true&&decide (3<(↑n:Int))then bif
 Nat.ble 16 cs.length then bif ao u8 (cd cs)then bif ao u8 (el cs)then bif ao u8 (ej cs)then bif ar (cb
 cs)then bif u8B (dT cs)&&u8B (dS cs)then bif usB (aq (cd cs)) (dT cs) (dS cs) (ab (cb cs))then bif true&&decide (3<(↑n:
 Int))then bif Nat.ble 16 cs.length then bif ao u8 (cd cs)then bif ao u8 (el cs)then bif ao u8 (ej cs)then bif
 ar (cb cs)then bif decide (4<(↑n:Int))then R (.slice 5 0 3 false 0 0) (zia_9 cs)else R (.slice 5 0 3 false 0 0) (zia_9 cs)else False else False
 else False else False else False else False else bif decide (4<(↑n:Int))then R ey (zia_3 cs)else R ey (zia_3 cs)else False else False else False
 else False else False else False else False else R ey (zia_3 cs)else False else False else False else False else False else False else bif decide (3<(↑n:
 Int))then bif true&&decide (3<(↑n:Int))then bif Nat.ble 16 cs.length then bif ao u8 (cd cs)then bif ao u8 (el cs)then
 bif ao u8 (ej cs)then bif ar (cb cs)then bif u8B (dT cs)&&u8B (dS cs)then bif usB (aq (cd cs)) (dT cs) (dS cs)
 (ab (cb cs))then bif true&&decide (3<(↑n:Int))then bif Nat.ble 16 cs.length then bif ao u8 (cd cs)then bif ao u8
 (el cs)then bif ao u8 (ej cs)then bif ar (cb cs)then bif decide (4<(↑n:Int))then R ey (zia_17 cs)else R ey (zia_17
 cs)else False else False else False else False else False else False else bif decide (4<(↑n:Int))then R fk (rb cs)else R fk (rb cs)else
 False else False else False else False else False else False else False else R fk (rb cs)else False else False else False else False else False else
 False else False else R fk (rb cs)else False else False else False else False else False else False else False else R fk (rb cs)else False else
 False else False else False else False else False else bif decide (1<(↑n:Int))then bif true&&decide (1<(↑n:Int))then bif Nat.ble 8 cs.length then bif
 ao u8 (cs.getD 4 (.bool false))then bif ao u8 (cs.getD 5 (.bool false))then bif ao u8 (cs.getD 6 (.bool false))then bif
 ar (cs.getD 7 (.bool false))then bif u8B (fR cs)&&u8B (fQ cs)then bif usB (gP cs) (fR cs) (fQ cs) (gO cs)then bif true&&
 decide (1<(↑n:Int))then bif Nat.ble 8 cs.length then bif ao u8 (cs.getD 4 (.bool false))then bif ao u8 (cs.getD 5 (.bool false))
 then bif ao u8 (cs.getD 6 (.bool false))then bif ar (cs.getD 7 (.bool false))then bif decide (2<(↑n:Int))then bif true&&decide (2<
 (↑n:Int))then bif Nat.ble 12 cs.length then bif ao u8 (dv cs)then bif ao u8 (cs.getD 9 (.bool false))then bif ao u8
 (cs.getD 10 (.bool false))then bif ar (dw cs)then bif u8B (ez cs)&&u8B (eA cs)then bif usB (aq (dv cs)) (ez cs) (eA cs)
 (ab (dw cs))then bif true&&decide (2<(↑n:Int))then bif Nat.ble 12 cs.length then bif ao u8 (dv cs)then bif ao u8
 (cs.getD 9 (.bool false))then bif ao u8 (cs.getD 10 (.bool false))then bif ar (dw cs)then bif decide (3<(↑n:Int))then bif true&&
 decide (3<(↑n:Int))then bif Nat.ble 16 cs.length then bif ao u8 (cd cs)then bif ao u8 (el cs)then bif ao u8
 (ej cs)then bif ar (cb cs)then bif u8B (dT cs)&&u8B (dS cs)then bif usB (aq (cd cs)) (dT cs) (dS cs) (ab (cb cs))
 then bif true&&decide (3<(↑n:Int))then bif Nat.ble 16 cs.length then bif ao u8 (cd cs)then bif ao u8 (el cs)then bif
 ao u8 (ej cs)then bif ar (cb cs)then bif decide (4<(↑n:Int))then R (.slice 5 0 3 false 0 0) (zia_10 cs)else R (.slice 5 0 3
 false 0 0) (zia_10 cs)else False else False else False else False else False else False else bif decide (4<(↑n:Int))then R ey (zia_4 cs)else R ey
 (zia_4 cs)else False else False else False else False else False else False else False else R ey (zia_4 cs)else False else False else False else False else
 False else False else bif decide (3<(↑n:Int))then bif true&&decide (3<(↑n:Int))then bif Nat.ble 16 cs.length then bif ao u8 (cd cs)
 then bif ao u8 (el cs)then bif ao u8 (ej cs)then bif ar (cb cs)then bif u8B (dT cs)&&u8B (dS cs)then bif usB
 (aq (cd cs)) (dT cs) (dS cs) (ab (cb cs))then bif true&&decide (3<(↑n:Int))then bif Nat.ble 16 cs.length then bif ao u8
 (cd cs)then bif ao u8 (el cs)then bif ao u8 (ej cs)then bif ar (cb cs)then bif decide (4<(↑n:Int))then R
 ey (zia_18 cs)else R ey (zia_18 cs)else False else False else False else False else False else False else bif decide (4<(↑n:Int))then R fk
 (zia_8 cs)else R fk (zia_8 cs)else False else False else False else False else False else False else False else R fk (zia_8 cs)else False else False
 else False else False else False else False else False else R fk (zia_8 cs)else False else False else False else False else False else False else bif decide
 (2<(↑n:Int))then bif true&&decide (2<(↑n:Int))then bif Nat.ble 12 cs.length then bif ao u8 (dv cs)then bif ao u8
 (cs.getD 9 (.bool false))then bif ao u8 (cs.getD 10 (.bool false))then bif ar (dw cs)then bif u8B (ez cs)&&u8B (eA cs)then
 bif usB (aq (dv cs)) (ez cs) (eA cs) (ab (dw cs))then bif true&&decide (2<(↑n:Int))then bif Nat.ble 12 cs.length then bif ao
 u8 (dv cs)then bif ao u8 (cs.getD 9 (.bool false))then bif ao u8 (cs.getD 10 (.bool false))then bif ar (dw cs)
 then bif decide (3<(↑n:Int))then bif true&&decide (3<(↑n:Int))then bif Nat.ble 16 cs.length then bif ao u8 (cd cs)then bif ao
 u8 (el cs)then bif ao u8 (ej cs)then bif ar (cb cs)then bif u8B (dT cs)&&u8B (dS cs)then bif usB (aq (cd
 cs)) (dT cs) (dS cs) (ab (cb cs))then bif true&&decide (3<(↑n:Int))then bif Nat.ble 16 cs.length then bif ao u8 (cd cs)
 then bif ao u8 (el cs)then bif ao u8 (ej cs)then bif ar (cb cs)then bif decide (4<(↑n:Int))then R ey (zia_19
 cs)else R ey (zia_19 cs)else False else False else False else False else False else False else bif decide (4<(↑n:Int))then R fk (sX cs)else R
 fk (sX cs)else False else False else False else False else False else False else False else R fk (sX cs)else False else False else False else
 False else False else False else bif decide (3<(↑n:Int))then bif true&&decide (3<(↑n:Int))then bif Nat.ble 16 cs.length then bif ao u8
 (cd cs)then bif ao u8 (el cs)then bif ao u8 (ej cs)then bif ar (cb cs)then bif u8B (dT cs)&&u8B (dS cs)
 then bif usB (aq (cd cs)) (dT cs) (dS cs) (ab (cb cs))then bif true&&decide (3<(↑n:Int))then bif Nat.ble 16 cs.length then bif
 ao u8 (cd cs)then bif ao u8 (el cs)then bif ao u8 (ej cs)then bif ar (cb cs)then bif decide (4<(↑n
 :Int))then R fk [.dead,.row [.int u8 (aq (cd cs)),.int u8 (dT cs),.int u8 (dS cs),.str (ab (cb
 cs))] 72 4]else R fk [.dead,.row [.int u8 (aq (cd cs)),.int u8 (dT cs),.int u8 (dS cs),.str (ab
 (cb cs))] 72 4]else False else False else False else False else False else False else bif decide (4<(↑n:Int))then R .nilSlice []else R .nilSlice []
 else False else False else False else False else False else False else False else R .nilSlice []else False else False else False else False else False else
 False else False else R .nilSlice []else False else False else False else False else False else False else False else R .nilSlice []else False else False
 else False else False else False else False else False else R .nilSlice []):=by kernel_rfl
def rusaT:List V→Option (Qx)
 |[.lst x n cs]=>some [((okT n cs&&(tlD cs).all inU)&&Nat.beq (bx (usaL cs)).length 0,(.nilSlice,[])),(okT n cs&&(tlD cs).all inU,(.slice 0 0 (bx (usaL cs)).length false 0 0,[.row (tls (bx (usaL cs))) 72 4]))]
 |_=>none
def rusO(q:List TL):V×St:=bif Nat.beq q.length 0 then(.nilSlice,[])else(.slice 0 0 q.length false 0 0,[.row (tls q) 72 4])
theorem gL(st:St):Fits 0 [V.nilSlice] [] [some V.nilSlice] st:=⟨[],[.nilSlice],rfl,rfl,FitsM.of trivial,by decide,fun i hi=>by omega⟩
theorem rusa_fits(x:Value)(l:List TL)(hl:l.length≤9223372036854775807)(hu:l.all inU=true):runM Qq RU0 9 10 55 [.lst x l.length (tls l)] (fun v st=>Fits 0 [(rusO (bx (l.take 4))).1] (rusO (bx (l.take 4))).2 [some v] (vis v st)):=by
 refine cast (rusa_tree x l.length (tls l) (fun v st=>Fits 0 [(rusO (bx (l.take 4))).1] (rusO (bx (l.take 4))).2 [some v] st)).symm ?_;unfold fk ey zia_19 zia_18 zia_17 sX zia_11 zia_10 zia_9 zia_8 rb zia_4 zia_3 zia_2 cb cd dS ej dT el zia_1 zia_0 iC iD gO gP gQ gR fQ fR dv dw ez eA
 match l,hl,hu with
 |[],hl,hu=>
  have d0:decide ((0:Int)<(([]:List TL).length:Int))=false:=rfl;simp only[d0,ao,aq,ar,ab,decide_true,bv,aH,ae,ak];have tk:List.take 4 ([]:List TL)=[]:=rfl;rw[tk]
  (simp only[bx,ae,ak];first|exact gL _|exact dD rfl rfl)
 |[a],hl,hu=>
  have d0:decide ((0:Int)<(([a]:List TL).length:Int))=true:=rfl;have b0:Nat.ble 4 (tls ([a]:List TL)).length=true:=rfl;have g00:(tls ([a]:List TL)).getD 0 (.bool false)=.int .u8 a.u:=rfl;have g01:(tls ([a]:List TL)).getD 1 (.bool false)=.int .u8 a.s:=rfl;have g02:(tls ([a]:List TL)).getD 2 (.bool false)=.int .u8 a.m:=rfl;have g03:(tls ([a]:List TL)).getD 3 (.bool false)=.str a.d:=rfl;have d1:decide ((1:Int)<(([a]:List TL).length:Int))=false:=rfl;simp only[List.all_cons,ad]at hu;have u0:(u8B a.s&&u8B a.m)=true:=hu.1;simp only[g00,g01,g02,g03,d0,b0,d1,u0,ao,aq,ar,ab,decide_true,bv,aH,ae,ak];have tk:List.take 4 ([a]:List TL)=[a]:=rfl;rw[tk];cases h0:usB a.u a.s a.m a.d<;>(simp only[bx,h0,ae,ak];first|exact gL _|exact dD rfl rfl)
 |[a,b],hl,hu=>
  have d0:decide ((0:Int)<(([a,b]:List TL).length:Int))=true:=rfl;have b0:Nat.ble 4 (tls ([a,b]:List TL)).length=true:=rfl;have g00:(tls ([a,b]:List TL)).getD 0 (.bool false)=.int .u8 a.u:=rfl;have g01:(tls ([a,b]:List TL)).getD 1 (.bool false)=.int .u8 a.s:=rfl;have g02:(tls ([a,b]:List TL)).getD 2 (.bool false)=.int .u8 a.m:=rfl;have g03:(tls ([a,b]:List TL)).getD 3 (.bool false)=.str a.d:=rfl;have d1:decide ((1:Int)<(([a,b]:List TL).length:Int))=true:=rfl;have b1:Nat.ble 8 (tls ([a,b]:List TL)).length=true:=rfl;have g10:(tls ([a,b]:List TL)).getD 4 (.bool false)=.int .u8 b.u:=rfl;have g11:(tls ([a,b]:List TL)).getD 5 (.bool false)=.int .u8 b.s:=rfl;have g12:(tls ([a,b]:List TL)).getD 6 (.bool false)=.int .u8 b.m:=rfl;have g13:(tls ([a,b]:List TL)).getD 7 (.bool false)=.str b.d:=rfl;have d2:decide ((2:Int)<(([a,b]:List TL).length:Int))=false:=rfl;simp only[List.all_cons,ad]at hu;have u0:(u8B a.s&&u8B a.m)=true:=hu.1;have u1:(u8B b.s&&u8B b.m)=true:=hu.2.1;simp only[g00,g01,g02,g03,d0,b0,g10,g11,g12,g13,d1,b1,d2,u0,u1,ao,aq,ar,ab,decide_true,bv,aH,ae,ak];have tk:List.take 4 ([a,b]:List TL)=[a,b]:=rfl;rw[tk];cases h0:usB a.u a.s a.m a.d<;>cases h1:usB b.u b.s b.m b.d<;>(simp only[bx,h0,h1,ae,ak];first|exact gL _|exact dD rfl rfl)
 |[a,b,c],hl,hu=>
  have d0:decide ((0:Int)<(([a,b,c]:List TL).length:Int))=true:=rfl;have b0:Nat.ble 4 (tls ([a,b,c]:List TL)).length=true:=rfl;have g00:(tls ([a,b,c]:List TL)).getD 0 (.bool false)=.int .u8 a.u:=rfl;have g01:(tls ([a,b,c]:List TL)).getD 1 (.bool false)=.int .u8 a.s:=rfl;have g02:(tls ([a,b,c]:List TL)).getD 2 (.bool false)=.int .u8 a.m:=rfl;have g03:(tls ([a,b,c]:List TL)).getD 3 (.bool false)=.str a.d:=rfl;have d1:decide ((1:Int)<(([a,b,c]:List TL).length:Int))=true:=rfl;have b1:Nat.ble 8 (tls ([a,b,c]:List TL)).length=true:=rfl;have g10:(tls ([a,b,c]:List TL)).getD 4 (.bool false)=.int .u8 b.u:=rfl;have g11:(tls ([a,b,c]:List TL)).getD 5 (.bool false)=.int .u8 b.s:=rfl;have g12:(tls ([a,b,c]:List TL)).getD 6 (.bool false)=.int .u8 b.m:=rfl;have g13:(tls ([a,b,c]:List TL)).getD 7 (.bool false)=.str b.d:=rfl;have d2:decide ((2:Int)<(([a,b,c]:List TL).length:Int))=true:=rfl;have b2:Nat.ble 12 (tls ([a,b,c]:List TL)).length=true:=rfl;have g20:(tls ([a,b,c]:List TL)).getD 8 (.bool false)=.int .u8 c.u:=rfl;have g21:(tls ([a,b,c]:List TL)).getD 9 (.bool false)=.int .u8 c.s:=rfl;have g22:(tls ([a,b,c]:List TL)).getD 10 (.bool false)=.int .u8 c.m:=rfl;have g23:(tls ([a,b,c]:List TL)).getD 11 (.bool false)=.str c.d:=rfl;have d3:decide ((3:Int)<(([a,b,c]:List TL).length:Int))=false:=rfl;simp only[List.all_cons,ad]at hu;have u0:(u8B a.s&&u8B a.m)=true:=hu.1;have u1:(u8B b.s&&u8B b.m)=true:=hu.2.1;have u2:(u8B c.s&&u8B c.m)=true:=hu.2.2.1;simp only[g00,g01,g02,g03,d0,b0,g10,g11,g12,g13,d1,b1,g20,g21,g22,g23,d2,b2,d3,u0,u1,u2,ao,aq,ar,ab,decide_true,bv,aH,ae,ak];have tk:List.take 4 ([a,b,c]:List TL)=[a,b,c]:=rfl;rw[tk];cases h0:usB a.u a.s a.m a.d<;>cases h1:usB b.u b.s b.m b.d<;>cases h2:usB c.u c.s c.m c.d<;>(simp only[bx,h0,h1,h2,ae,ak];first|exact gL _|exact dD rfl rfl)
 |[a,b,c,d],hl,hu=>
  have d0:decide ((0:Int)<(([a,b,c,d]:List TL).length:Int))=true:=rfl;have b0:Nat.ble 4 (tls ([a,b,c,d]:List TL)).length=true:=rfl;have g00:(tls ([a,b,c,d]:List TL)).getD 0 (.bool false)=.int .u8 a.u:=rfl;have g01:(tls ([a,b,c,d]:List TL)).getD 1 (.bool false)=.int .u8 a.s:=rfl;have g02:(tls ([a,b,c,d]:List TL)).getD 2 (.bool false)=.int .u8 a.m:=rfl;have g03:(tls ([a,b,c,d]:List TL)).getD 3 (.bool false)=.str a.d:=rfl;have d1:decide ((1:Int)<(([a,b,c,d]:List TL).length:Int))=true:=rfl;have b1:Nat.ble 8 (tls ([a,b,c,d]:List TL)).length=true:=rfl;have g10:(tls ([a,b,c,d]:List TL)).getD 4 (.bool false)=.int .u8 b.u:=rfl;have g11:(tls ([a,b,c,d]:List TL)).getD 5 (.bool false)=.int .u8 b.s:=rfl;have g12:(tls ([a,b,c,d]:List TL)).getD 6 (.bool false)=.int .u8 b.m:=rfl;have g13:(tls ([a,b,c,d]:List TL)).getD 7 (.bool false)=.str b.d:=rfl;have d2:decide ((2:Int)<(([a,b,c,d]:List TL).length:Int))=true:=rfl;have b2:Nat.ble 12 (tls ([a,b,c,d]:List TL)).length=true:=rfl;have g20:(tls ([a,b,c,d]:List TL)).getD 8 (.bool false)=.int .u8 c.u:=rfl;have g21:(tls ([a,b,c,d]:List TL)).getD 9 (.bool false)=.int .u8 c.s:=rfl;have g22:(tls ([a,b,c,d]:List TL)).getD 10 (.bool false)=.int .u8 c.m:=rfl;have g23:(tls ([a,b,c,d]:List TL)).getD 11 (.bool false)=.str c.d:=rfl;have d3:decide ((3:Int)<(([a,b,c,d]:List TL).length:Int))=true:=rfl;have b3:Nat.ble 16 (tls ([a,b,c,d]:List TL)).length=true:=rfl;have g30:(tls ([a,b,c,d]:List TL)).getD 12 (.bool false)=.int .u8 d.u:=rfl;have g31:(tls ([a,b,c,d]:List TL)).getD 13 (.bool false)=.int .u8 d.s:=rfl;have g32:(tls ([a,b,c,d]:List TL)).getD 14 (.bool false)=.int .u8 d.m:=rfl;have g33:(tls ([a,b,c,d]:List TL)).getD 15 (.bool false)=.str d.d:=rfl;simp only[List.all_cons,ad]at hu;have u0:(u8B a.s&&u8B a.m)=true:=hu.1;have u1:(u8B b.s&&u8B b.m)=true:=hu.2.1;have u2:(u8B c.s&&u8B c.m)=true:=hu.2.2.1;have u3:(u8B d.s&&u8B d.m)=true:=hu.2.2.2.1;simp only[g00,g01,g02,g03,d0,b0,g10,g11,g12,g13,d1,b1,g20,g21,g22,g23,d2,b2,g30,g31,g32,g33,d3,b3,u0,u1,u2,u3,ao,aq,ar,ab,decide_true,bv,aH,ae,ak];have tk:List.take 4 [a,b,c,d]=[a,b,c,d]:=rfl;rw[tk];generalize decide ((4:Int)<(([a,b,c,d]:List TL).length:Int))=d4;cases d4<;>cases h0:usB a.u a.s a.m a.d<;>cases h1:usB b.u b.s b.m b.d<;>cases h2:usB c.u c.s c.m c.d<;>cases h3:usB d.u d.s d.m d.d<;>(simp only[bx,h0,h1,h2,h3,ae,ak];first|exact gL _|exact dD rfl rfl)
 |a::b::c::d::e::r,hl,hu=>
  have d0:decide ((0:Int)<((a::b::c::d::e::r:List TL).length:Int))=true:=am (by simp only[bi];omega);have b0:Nat.ble 4 (tls (a::b::c::d::e::r:List TL)).length=true:=ag (by rw[dV];simp only[bi];omega);have g00:(tls (a::b::c::d::e::r:List TL)).getD 0 (.bool false)=.int .u8 a.u:=rfl;have g01:(tls (a::b::c::d::e::r:List TL)).getD 1 (.bool false)=.int .u8 a.s:=rfl;have g02:(tls (a::b::c::d::e::r:List TL)).getD 2 (.bool false)=.int .u8 a.m:=rfl;have g03:(tls (a::b::c::d::e::r:List TL)).getD 3 (.bool false)=.str a.d:=rfl;have d1:decide ((1:Int)<((a::b::c::d::e::r:List TL).length:Int))=true:=am (by simp only[bi];omega);have b1:Nat.ble 8 (tls (a::b::c::d::e::r:List TL)).length=true:=ag (by rw[dV];simp only[bi];omega);have g10:(tls (a::b::c::d::e::r:List TL)).getD 4 (.bool false)=.int .u8 b.u:=rfl;have g11:(tls (a::b::c::d::e::r:List TL)).getD 5 (.bool false)=.int .u8 b.s:=rfl;have g12:(tls (a::b::c::d::e::r:List TL)).getD 6 (.bool false)=.int .u8 b.m:=rfl;have g13:(tls (a::b::c::d::e::r:List TL)).getD 7 (.bool false)=.str b.d:=rfl;have d2:decide ((2:Int)<((a::b::c::d::e::r:List TL).length:Int))=true:=am (by simp only[bi];omega);have b2:Nat.ble 12 (tls (a::b::c::d::e::r:List TL)).length=true:=ag (by rw[dV];simp only[bi];omega);have g20:(tls (a::b::c::d::e::r:List TL)).getD 8 (.bool false)=.int .u8 c.u:=rfl;have g21:(tls (a::b::c::d::e::r:List TL)).getD 9 (.bool false)=.int .u8 c.s:=rfl;have g22:(tls (a::b::c::d::e::r:List TL)).getD 10 (.bool false)=.int .u8 c.m:=rfl;have g23:(tls (a::b::c::d::e::r:List TL)).getD 11 (.bool false)=.str c.d:=rfl;have d3:decide ((3:Int)<((a::b::c::d::e::r:List TL).length:Int))=true:=am (by simp only[bi];omega);have b3:Nat.ble 16 (tls (a::b::c::d::e::r:List TL)).length=true:=ag (by rw[dV];simp only[bi];omega);have g30:(tls (a::b::c::d::e::r:List TL)).getD 12 (.bool false)=.int .u8 d.u:=rfl;have g31:(tls (a::b::c::d::e::r:List TL)).getD 13 (.bool false)=.int .u8 d.s:=rfl;have g32:(tls (a::b::c::d::e::r:List TL)).getD 14 (.bool false)=.int .u8 d.m:=rfl;have g33:(tls (a::b::c::d::e::r:List TL)).getD 15 (.bool false)=.str d.d:=rfl;simp only[List.all_cons,ad]at hu;have u0:(u8B a.s&&u8B a.m)=true:=hu.1;have u1:(u8B b.s&&u8B b.m)=true:=hu.2.1;have u2:(u8B c.s&&u8B c.m)=true:=hu.2.2.1;have u3:(u8B d.s&&u8B d.m)=true:=hu.2.2.2.1;simp only[g00,g01,g02,g03,d0,b0,g10,g11,g12,g13,d1,b1,g20,g21,g22,g23,d2,b2,g30,g31,g32,g33,d3,b3,u0,u1,u2,u3,ao,aq,ar,ab,decide_true,bv,aH,ae,ak];have tk:List.take 4 (a::b::c::d::e::r)=[a,b,c,d]:=rfl;rw[tk];generalize decide ((4:Int)<((a::b::c::d::e::r:List TL).length:Int))=d4;cases d4<;>cases h0:usB a.u a.s a.m a.d<;>cases h1:usB b.u b.s b.m b.d<;>cases h2:usB c.u c.s c.m c.d<;>cases h3:usB d.u d.s d.m d.d<;>(simp only[bx,h0,h1,h2,h3,ae,ak];first|exact gL _|exact dD rfl rfl)
theorem rusa_ok(args:List V)(L:Qx)(o:V×St)(h:rusaT args=some L)(ho:aL L=some o):FnSat Qq 55 args [] (Is o):=by
 unfold rusaT at h;split at h
 ·rename_i x n cs;cases h;cases hk:(okT n cs&&(tlD cs).all inU)with
  |false=>rw[hk]at ho;simp[aL]at ho
  |true=>
  rw[hk,aH]at ho;rw[ad]at hk;obtain⟨l,rfl,rfl,h1,h2⟩:=fL hk.1;have hu:l.all inU=true:=by have:=hk.2;rw[ci]at this;exact this
  have hq:usaL (tls l)=l.take 4:=by unfold usaL;rw[ci]
  rw[hq]at ho;have e:o=rusO (bx (l.take 4)):=by
   unfold rusO;cases hb:Nat.beq (bx (l.take 4)).length 0 with
   |true=>rw[hb]at ho;exact(Option.some.inj ho).symm
   |false=>rw[hb]at ho;exact(Option.some.inj ho).symm
  rw[e];exact visM_ok aA RU0_ok (rusa_fits x l h1 hu)
 ·cases h
def RN0:Tab:=⟨addT noT 104 rmatQ,noL,aT 9⟩
theorem RN0_ok:TabOk3 Qq RN0:=⟨aR aJ rmatQ_ok,aK,au 9⟩
theorem ran_round(p:Value)(k:Nat)(ds:List V)(h:List UInt8)(now:Int)(n:Nat)(cs:List V)(i:Int)(R:Qz):al Qq RN0 9 10 (ah 9) 54 58 [1,2,3,8,9,10] [.lst p k ds,.str h,.int .i64 now,.bool false,.slice 0 0 n false 0 0,.int .i64 i] [.row cs 72 4] R=
  (
 bif decide (i<(↑n:Int))then bif decide (0≤i)&&decide (i<(↑n:Int))then bif (0+i.toNat*4+4).ble cs.length then bif ao u8 (cs.getD (0+
 i.toNat*4+0) (.bool false))then bif ao u8 (cs.getD (0+i.toNat*4+1) (.bool false))then bif ao u8 (cs.getD (0+i.toNat*4+2)
 (.bool false))then bif ar (cs.getD (0+i.toNat*4+3) (.bool false))then bif okLL k ds&&az h&&(u8B (aq (cs.getD (0+i.toNat*4+1) (.bool
 false)))&&u8B (aq (cs.getD (0+i.toNat*4+2) (.bool false))))then bif matB (aq (cs.getD (0+i.toNat*4+0) (.bool false))) (aq (cs.getD (0+
 i.toNat*4+1) (.bool false))) (aq (cs.getD (0+i.toNat*4+2) (.bool false))) (ab (cs.getD (0+i.toNat*4+3) (.bool false))) (List.map ab ds) h
 now then R .ret [some (.lst p k ds),some (.str h),some (.int i64 now),some (.bool true),some (.slice 0 0 n false 0 0),some (.int i64 i)]
 [.row cs 72 4]else R .normal [some (.lst p k ds),some (.str h),some (.int i64 now),some (.bool false),some (.slice 0 0 n false 0 0),some (.int
 i64 (i64.wrap (i+1)))] [.row cs 72 4]else False else False else False else False else False else False else False else R (.exit 0) [some (.lst
 p k ds),some (.str h),some (.int i64 now),some (.bool false),some (.slice 0 0 n false 0 0),some (.int i64 i)] [.row cs 72 4]):=by kernel_rfl
structure RAX where
 p:Value
 k:Nat
 ds:List V
 h:List UInt8
 now:Int
 n:Nat
 cs:List V
 i:Nat
def raxV(y:RAX):List V:=[.lst y.p y.k y.ds,.str y.h,.int .i64 y.now,.bool false,.slice 0 0 y.n false 0 0,.int .i64 y.i]
def raxJ(y:RAX):St:=[.row y.cs 72 4]
def lF(y:RAX):Bool:=okT y.n y.cs&&((okLL y.k y.ds&&az y.h)&&((tlD y.cs).all inU&&Nat.ble y.i y.n))
def raxMu(y:RAX):Nat:=y.n-y.i
def raxDec:List (Option V)→St→Option RAX
 |[some (.lst p k ds),some (.str h),some (.int .i64 now),some (.bool false),some (.slice b 0 n false 0 0),some (.int .i64 0)],st=>match st[b]? with
  |some (.row cs _ _)=>some ⟨p,k,ds,h,now,n,cs,0⟩
  |_=>none
 |_,_=>none
def oT(p:Value)(k:Nat)(ds:List V)(h:List UInt8)(now:Int)(n:Nat)(b:Bool)(K:Exit→List V→St→Prop):Prop:=
 bif b then ∀i:Int,K .ret [.lst p k ds,.str h,.int .i64 now,.bool true,.slice 0 0 n false 0 0,.int .i64 i] [.dead]else ∀i:Int,K (.exit 0) [.lst p k ds,.str h,.int .i64 now,.bool false,.slice 0 0 n false 0 0,.int .i64 i] [.dead]
def anyR(cs ds:List V)(h:List UInt8)(now:Int)(i:Nat):Bool:=anyC ((tlD cs).drop i) (ds.map ab) h now
def raxOut:Asks RAX:=fun y K=>oT y.p y.k y.ds y.h y.now y.n (anyR y.cs y.ds y.h y.now y.i) K
theorem rax_fits(p:Value)(k:Nat)(ds:List V)(h:List UInt8)(now:Int)(b:Bool)(n:Nat){cs:List V}(hf:aM cs=true)(i:Int){c:Nat}{st:St}(g:st[c]?=some (.row cs 72 4)):Fits 0 [.lst p k ds,.str h,.int .i64 now,.bool b,.slice 0 0 n false 0 0,.int .i64 i] [.row cs 72 4] [some (.lst p k ds),some (.str h),some (.int .i64 now),some (.bool b),some (.slice c 0 n false 0 0),some (.int .i64 i)] st:=
 ⟨[c],[.lst p k ds,.str h,.int .i64 now,.bool b,.slice c 0 n false 0 0,.int .i64 i],rfl,rfl,FitsM.of ⟨fb hf g,trivial⟩,by simp,fun i hi=>by omega⟩
theorem rax_out(p:Value)(k:Nat)(ds:List V)(h:List UInt8)(now:Int)(b:Bool)(n:Nat)(i:Int)(st:St):Fits 0 [.lst p k ds,.str h,.int .i64 now,.bool b,.slice 0 0 n false 0 0,.int .i64 i] [.dead] [some (.lst p k ds),some (.str h),some (.int .i64 now),some (.bool b),some (.slice 0 0 n false 0 0),some (.int .i64 i)] st:=
 ⟨[0],[.lst p k ds,.str h,.int .i64 now,.bool b,.slice 0 0 n false 0 0,.int .i64 i],rfl,rfl,FitsM.of ⟨.inl rfl,trivial⟩,by decide,fun i hi=>by omega⟩
theorem rax_roundOk(y:RAX)(hx:lF y=true):al Qq RN0 9 10 (ah 9) 54 58 [1,2,3,8,9,10] (raxV y) (raxJ y) (aD 0 lF raxV raxJ raxMu raxOut y):=by
 obtain⟨p,k,ds,h,now,n,cs,i⟩:=y;unfold lF at hx;simp only[ad]at hx;have hx1:okT n cs=true:=hx.1;have hx2:okLL k ds=true:=hx.2.1.1;have hx4:az h=true:=hx.2.1.2;have hx3:(tlD cs).all inU=true:=hx.2.2.1;have p1:i≤n:=aw hx.2.2.2;obtain⟨l,rfl,rfl,p2,p3⟩:=fL hx1;rw[p3]at hx3;show al Qq RN0 9 10 (ah 9) 54 58 [1,2,3,8,9,10] [.lst p k ds,.str h,.int .i64 now,.bool false,.slice 0 0 l.length false 0 0,.int .i64 i] [.row (tls l) 72 4] _;rw[ran_round];have out:∀K,raxOut ⟨p,k,ds,h,now,l.length,tls l,i⟩ K→oT p k ds h now l.length (anyC (l.drop i) (ds.map ab) h now) K:=fun K hK=>by
  have hK:oT p k ds h now l.length (anyC ((tlD (tls l)).drop i) (ds.map ab) h now) K:=hK;rw[p3]at hK;exact hK
 cases hd:l.drop i with
 |nil=>
  have hi:=bY hd p1;rw[bH (show ¬((i:Int)<(l.length:Int)) by omega),ak];refine⟨_,_,fun K hK=>?_,rax_out p k ds h now false l.length i _⟩;have hK:=out K hK;rw[hd]at hK;exact hK i
 |cons c r=>
  obtain⟨e1,e2,e3⟩:=bn hd;have get:∀j,j<4→(tls l).getD (i*4+j) (.bool false)=c.cells.getD j (.bool false):=fun j hj=>by
   obtain⟨t1,t2⟩:=tls_at hd hj;rw[bX,bX,Nat.mul_comm,t1]
  have g0:(tls l).getD (i*4+0) (.bool false)=.int .u8 c.u:=get 0 (by omega);have g1:(tls l).getD (i*4+1) (.bool false)=.int .u8 c.s:=get 1 (by omega);have g2:(tls l).getD (i*4+2) (.bool false)=.int .u8 c.m:=get 2 (by omega);have g3:(tls l).getD (i*4+3) (.bool false)=.str c.d:=get 3 (by omega);have hc:inU c=true:=List.all_eq_true.1 hx3 c (List.mem_of_mem_drop (by rw[hd];simp));have hc:(u8B c.s&&u8B c.m)=true:=hc;have d1:decide ((i:Int)<(l.length:Int))=true:=am (by omega);have d2:decide ((0:Int)≤(i:Int))=true:=am (by omega);have l4:(i*4+4).ble (tls l).length=true:=ag (by rw[dV];omega);have w2:i64.wrap ((i:Int)+1)=((i+1:Nat):Int):=by rw[IntWalk.i64_in _ ⟨by omega,by omega⟩];omega
  have z0:0+i*4=i*4:=by omega
  simp only[d1,d2,bp,z0,l4,g0,g1,g2,g3,ar,ab,ao,aq,decide_true,w2,hx2,hx4,hc,bv,ae];have next:anyC (c::r) (ds.map ab) h now=(matB c.u c.s c.m c.d (ds.map ab) h now||anyC r (ds.map ab) h now):=rfl
  refine ac (fun e=>?_) (fun e=>?_)
  ·refine⟨_,_,fun K hK=>?_,rax_out p k ds h now true l.length i _⟩;have hK:=out K hK;rw[hd,next,e]at hK;exact hK i
  ·refine⟨⟨p,k,ds,h,now,l.length,tls l,i+1⟩,?_,rax_fits p k ds h now false l.length (me l) _ rfl,by simp only[raxMu];omega,fun K hK=>?_⟩
   ·unfold lF;simp only[ad];exact⟨hx1,⟨hx2,hx4⟩,by rw[p3];exact hx3,ag (show i+1≤l.length by omega)⟩
   ·have hK:=out K hK;rw[hd,next,e,Bool.false_or]at hK;show oT p k ds h now l.length (anyC ((tlD (tls l)).drop (i+1)) (ds.map ab) h now) K;rw[p3,e2];exact hK
def lkRAX:Nat→Trans→Trans:=gH 58 (isSl 9) (bK 0 (szOf Qq 54) [1,2,3,8,9,10] raxDec lF raxV raxJ raxOut) (ah 9)
theorem lkRAX_ok:aQ Qq 0 lkRAX 54:=by
 unfold lkRAX;exact qt (aY 9 0 54) (by kernel_rfl) fun f st Q h=>bc (P:=Qq) (T:=RN0) (k:=0) (lim:=9) (n:=10) (g:=54) (p0:=58) (lk:=ah 9) aA RN0_ok (bf 9 _ _) raxMu rax_roundOk h
def RN1:Tab:=⟨addT noT 55 rusaT,noL,cI (aT 9) 54 0 lkRAX⟩
theorem RN1_ok:TabOk3 Qq RN1:=⟨aR aJ rusa_ok,aK,bq (au 9) lkRAX_ok⟩
theorem ran_tree(x:Value)(n:Nat)(cs:List V)(p:Value)(k:Nat)(ds:List V)(h:List UInt8)(now:Int)(R:V→Prop):runW Qq RN1 9 10 54 [.lst x n cs,.lst p k ds,.str h,.int .i64 now] R=
  (
 bif okT n cs&&(tlD cs).all inU&&(bx (usaL cs)).length.beq 0 then R (.bool false)else bif okT n cs&&(tlD cs).all inU then Fits 0 [.lst p k ds,.str h,.int
 i64 now,.bool false,.slice 0 0 (bx (usaL cs)).length false 0 0,.int i64 0] [.row (tls (bx (usaL cs))) 72 4] [some (.lst p k ds),some
 (.str h),some (.int i64 now),some (.bool false),some (.slice 0 0 (bx (usaL cs)).length false 0 0),some (.int i64 0)] [.row (tls (bx
 (usaL cs))) 72 4]∧bif lF {p:=p,k:=k,ds:=ds,h:=h,now:=now,n:=(bx (usaL cs)).length,cs:=tls (bx (usaL cs)),i:=0}then bif anyR (tls
 (bx (usaL cs))) ds h now 0 then ∀(i:Int),R (.bool true)else ∀(i:Int),R (.bool false)else False else False):=by kernel_rfl
def ranyT:List V→Option (Qx)
 |[.lst _ n cs,.lst _ k ds,.str h,.int .i64 now]=>some [(okT n cs&&((okLL k ds&&az h)&&(tlD cs).all inU),(.bool (anyC (bx (usaL cs)) (ds.map ab) h now),[]))]
 |_=>none
theorem ranyT_ok(args:List V)(L:Qx)(o:V×St)(h:ranyT args=some L)(ho:aL L=some o):FnSat Qq 54 args [] (Is o):=by
 unfold ranyT at h;split at h
 ·rename_i x n cs p k ds hh now;cases h;obtain⟨hk,rfl⟩:=aO ho;simp only[ad]at hk;obtain⟨h1,⟨h2,h2'⟩,h3⟩:=hk;refine ax (lim:=9) (n:=10) aA RN1_ok rfl rfl ?_;rw[ran_tree,h1,h3,bv,aH];refine ac (fun hn=>?_) (fun _=>?_)
  ·have:bx (usaL cs)=[]:=List.eq_nil_of_length_eq_zero (aP hn);rw[this];rfl
  ·rw[ae];have hlen:(bx (usaL cs)).length≤4:=by
    have:=qp (usaL cs);have h4:(usaL cs).length≤4:=by unfold usaL;rw[List.length_take];omega
    omega
   have hg:(bx (usaL cs)).all inU=true:=mU _ (take_all 4 h3);refine⟨rax_fits p k ds hh now false _ (me _) 0 rfl,aa ?_ ?_⟩
   ·unfold lF;simp only[ad];exact⟨ji (by omega),⟨h2,h2'⟩,by rw[ci];exact hg,ag (Nat.zero_le _)⟩
   ·unfold anyR;rw[ci,List.drop_zero];cases anyC (bx (usaL cs)) (ds.map ab) hh now with
    |true=>intro i;rfl
    |false=>intro i;rfl
 ·cases h
theorem okLL_mk{l:List (List UInt8)}(h:l.length≤9223372036854775807)(ha:l.all az=true):okLL l.length (strs l)=true:=by
 unfold okLL iK;rw[dH h,ai,ha];rfl
def zOK(p q:V)(h:List UInt8)(st:St):Bool:=match eu st p,bC st q with
 |some (b,l),some (c,r)=>b&&(c&&((l.all inU&&(r.all az&&az h))&&(Nat.ble l.length 9223372036854775807&&Nat.ble r.length 9223372036854775807)))
 |_,_=>false
def ranyGV(OK:V→V→List UInt8→St→Bool)(AV:V→V→List UInt8→Int→St→Bool):List V→St→Option (Qx)
 |[p,q,.str h,.int .i64 now],st=>some [(OK p q h st,(.bool (AV p q h now st),st))]
 |_,_=>none
theorem ranyGV_ok(args:List V)(s:St)(L:Qx)(o:V×St)(h:ranyGV zOK yV args s=some L)(ho:aL L=some o):FnSat Qq 54 args s (Is o):=by
 unfold ranyGV at h;split at h
 ·rename_i p q hh now;cases h;obtain⟨hb,rfl⟩:=aO ho;unfold zOK at hb;split at hb
  ·rename_i b l c r hv hw;have hL:yV p q hh now s=anyC (bx (l.take 4)) r hh now:=by unfold yV;rw[hv,hw]
   rw[hL];simp only[ad]at hb;obtain⟨rfl,rfl,⟨h1,h4,h5⟩,h2,h3⟩:=hb;refine cx rfl fun B W0 w m rargs hr ha=>?_;obtain⟨a,r1,q1,q2,rfl⟩:=aj ha;obtain⟨a2,r2,q3,q4,rfl⟩:=aj q2;have e1:=iR hr hv q1;have e2:=cB hr hw q3;have h2:=aw h2;have h3:=aw h3;have:=@ranyT_ok (Frz.of w) [lstT a l,lstS a2 r,.str hh,.int .i64 now] _ (.bool (anyC (bx (l.take 4)) r hh now),[]) (by unfold lstT lstS ranyT;rfl) (by
    rw[ji h2,okLL_mk h3 h4,ci,h1,ai,h5];unfold usaL;rw[ci];rfl)
   exact⟨[lstT a l,lstS a2 r,.str hh,.int .i64 now],@aI _ (Frz.of w) [] _ _ _ _ e1 (@aI _ (Frz.of w) [] _ _ _ _ e2 q4),this⟩
  ·cases hb
 ·cases h
theorem rI{Φ Ψ:Frz}{m m':List MB}{p:V}{b:List V}{f:Value→V}(hf:∀y,@real _ Φ m p=some y→@real _ Ψ m' (f y)=some y)(hb:en b=true):∀(a:List V) (xs:List Value),en a=true→@ap _ Φ m (a++p::b)=some xs→∃y,@ap _ Ψ m' (a++f y::b)=some xs
 |[],xs,_,h=>by
  obtain⟨y,r,q1,q2,rfl⟩:=@aj _ Φ m _ _ _ h;exact⟨y,@aI _ Ψ m' _ _ _ _ (hf y q1) (bw _ _ hb q2)⟩
 |v::a,xs,ha,h=>by
  obtain⟨z,r,q1,q2,rfl⟩:=@aj _ Φ m _ _ _ h;simp only[en,ad]at ha;obtain⟨y,hy⟩:=rI hf hb a r ha.2 q2;exact⟨y,@aI _ Ψ m' _ _ _ _ (bJ _ _ ha.1 q1) hy⟩
theorem o6{Φ Ψ:Frz}{m m':List MB}{p:V}{b:List V}{f:Value→V}(hf:∀y,@real _ Φ m p=some y→@real _ Ψ m' (f y)=some y)(a:List V)(ha:en a=true)(hb:en b=true){x:Value}(h:@real _ Φ m (.agg (a++p::b))=some x):∃y,@real _ Ψ m' (.agg (a++f y::b))=some x:=by
 obtain⟨xs,h0,rfl⟩:=@ee _ Φ m _ _ h;obtain⟨y,hy⟩:=rI hf hb a xs ha h0;exact⟨y,by simp only[real,hy]⟩
def adC(h:List UInt8)(keys:List TL)(ch se ok:Bool)(ver:Int)(chain:List (List UInt8))(now:Int)(an:List (List UInt8)):Bool:=bif se then askC h keys ok ver chain now an true ch==0 else ok
theorem ad_sat(h:List UInt8)(x:Value)(l:List TL)(ch se:Bool)(ty:Int)(ok:Bool)(ver:Int)(p:Value)(d:List (List UInt8))(now:Int)(y:Value)(e:List (List UInt8))(h1:l.length≤9223372036854775807)(h2:d.length≤9223372036854775807)(h3:e.length≤9223372036854775807)(h4:l.all inU=true):
  FnSat Qq 20 [.agg [.str h,lstT x l,.bool ch,.bool se,.int .u8 ty],.agg [.bool ok,.int .u16 ver,lstS p d],.int .i64 now,lstS y e] [] (Is (.bool (adC h l ch se ok ver d now e),[])):=by
 have hk:askK l.length (tls l) d.length (strs d) e.length (strs e)=true:=by unfold askK;rw[ji h1,dH h2,dH h3,ci,h4];rfl
 have hv:askV h (tls l) ok ver (strs d) now (strs e) true ch=askC h l ok ver d now e true ch:=by unfold askV;rw[ci,ai,ai]
 refine ax (lim:=9) (n:=10) aA AE_ok rfl rfl ?_;unfold lstT lstS;rw[ad_tree,hk,hv];unfold adC;cases se<;>rfl
def adOK(p q z:V)(st:St):Bool:=match eu st p,bC st q,bC st z with
 |some (a,l),some (b,d),some (c,e)=>a&&(b&&(c&&(l.all inU&&(Nat.ble l.length 9223372036854775807&&(Nat.ble d.length 9223372036854775807&&Nat.ble e.length 9223372036854775807)))))
 |_,_,_=>false
def adV(h:List UInt8)(p:V)(ch se ok:Bool)(ver:Int)(q:V)(now:Int)(z:V)(st:St):Bool:=match eu st p,bC st q,bC st z with
 |some (_,l),some (_,d),some (_,e)=>adC h l ch se ok ver d now e
 |_,_,_=>false
def adGV(OK:V→V→V→St→Bool)(AV:List UInt8→V→Bool→Bool→Bool→Int→V→Int→V→St→Bool):List V→St→Option (Qx)
 |[.agg [.str h,p,.bool ch,.bool se,.int .u8 _],.agg [.bool ok,.int .u16 ver,q],.int .i64 now,z],st=>some [(OK p q z st,(.bool (AV h p ch se ok ver q now z st),st))]
 |_,_=>none
theorem adGV_ok(args:List V)(s:St)(L:Qx)(o:V×St)(h:adGV adOK adV args s=some L)(ho:aL L=some o):FnSat Qq 20 args s (Is o):=by
 unfold adGV at h;split at h
 ·rename_i hh p ch se ty ok ver q now z;cases h;obtain⟨hb,rfl⟩:=aO ho;unfold adOK at hb;split at hb
  ·rename_i a l b d c e hv hw hz;have hL:adV hh p ch se ok ver q now z s=adC hh l ch se ok ver d now e:=by unfold adV;rw[hv,hw,hz]
   rw[hL];simp only[ad]at hb;obtain⟨rfl,rfl,rfl,h1,h2,h3,h4⟩:=hb;refine cx rfl fun B W0 w m rargs hr ha=>?_;obtain⟨x1,r1,q1,q2,rfl⟩:=aj ha;obtain⟨x2,r2,q3,q4,rfl⟩:=aj q2;obtain⟨x3,r3,q5,q6,rfl⟩:=aj q4;obtain⟨x4,r4,q7,q8,rfl⟩:=aj q6;obtain⟨y1,g1⟩:=o6 (Ψ:=Frz.of w) (m':=[]) (f:=fun y=>lstT y l) (fun y hy=>iR hr hv hy) [.str hh] rfl (b:=[.bool ch,.bool se,.int .u8 ty]) rfl q1;obtain⟨y2,g2⟩:=o6 (Ψ:=Frz.of w) (m':=[]) (f:=fun y=>lstS y d) (fun y hy=>cB hr hw hy) [.bool ok,.int .u16 ver] rfl (b:=[]) rfl q3;have g3:=bJ (Ψ:=Frz.of w) (m':=[]) _ _ rfl q5;have g4:=cB hr hz q7;have g5:=bw (Ψ:=Frz.of w) (m':=[]) _ _ rfl q8;have:=@ad_sat (Frz.of w) hh y1 l ch se ty ok ver y2 d now x4 e (aw h2) (aw h3) (aw h4) h1;exact⟨[.agg [.str hh,lstT y1 l,.bool ch,.bool se,.int .u8 ty],.agg [.bool ok,.int .u16 ver,lstS y2 d],.int .i64 now,lstS x4 e],@aI _ (Frz.of w) [] _ _ _ _ g1 (@aI _ (Frz.of w) [] _ _ _ _ g2 (@aI _ (Frz.of w) [] _ _ _ _ g3 (@aI _ (Frz.of w) [] _ _ _ _ g4 g5))),this⟩
  ·cases hb
 ·cases h
def reC(h:List UInt8)(keys:List TL)(ch se:Bool)(ty:Int)(be ok:Bool)(ver:Int)(chain:List (List UInt8))(now:Int)(an:List (List UInt8)):Int:=bif !be then 1 else askC h keys ok ver chain now an (se||!(ty==0||ty==3)) (keys.isEmpty&&(ch||ty==2))
theorem re_sat(h:List UInt8)(x:Value)(l:List TL)(ch se:Bool)(ty:Int)(be ok:Bool)(ver:Int)(p:Value)(d:List (List UInt8))(now:Int)(y:Value)(e:List (List UInt8))(h1:l.length≤9223372036854775807)(h2:d.length≤9223372036854775807)(h3:e.length≤9223372036854775807)(h4:l.all inU=true):
  FnSat Qq 22 [.agg [.str h,lstT x l,.bool ch,.bool se,.int .u8 ty],.bool be,.agg [.bool ok,.int .u16 ver,lstS p d],.int .i64 now,lstS y e] [] (Is (.int .u8 (reC h l ch se ty be ok ver d now e),[])):=by
 have hk:askK l.length (tls l) d.length (strs d) e.length (strs e)=true:=by unfold askK;rw[ji h1,dH h2,dH h3,ci,h4];rfl
 have hv:∀a b,askV h (tls l) ok ver (strs d) now (strs e) a b=askC h l ok ver d now e a b:=fun a b=>by unfold askV;rw[ci,ai,ai]
 refine ax (lim:=9) (n:=10) aA AE_ok rfl rfl ?_;unfold lstT lstS;rw[re_tree,hk];simp only[hv];unfold reC;have hn:((l.length:Int)==0)=l.isEmpty:=by cases l<;>simp<;>omega
 rw[hn];generalize l.isEmpty=E;generalize (ty==0)=A;generalize (ty==2)=B;generalize (ty==3)=C;cases be<;>cases A<;>cases E<;>cases ch<;>cases se<;>cases B<;>cases C<;>rfl
def reV(h:List UInt8)(p:V)(ch se:Bool)(ty:Int)(be ok:Bool)(ver:Int)(q:V)(now:Int)(z:V)(st:St):Int:=match eu st p,bC st q,bC st z with
 |some (_,l),some (_,d),some (_,e)=>reC h l ch se ty be ok ver d now e
 |_,_,_=>0
def reGV(OK:V→V→V→St→Bool)(RV:List UInt8→V→Bool→Bool→Int→Bool→Bool→Int→V→Int→V→St→Int):List V→St→Option (Qx)
 |[.agg [.str h,p,.bool ch,.bool se,.int .u8 ty],.bool be,.agg [.bool ok,.int .u16 ver,q],.int .i64 now,z],st=>some [(OK p q z st,(.int .u8 (RV h p ch se ty be ok ver q now z st),st))]
 |_,_=>none
theorem reGV_ok(args:List V)(s:St)(L:Qx)(o:V×St)(h:reGV adOK reV args s=some L)(ho:aL L=some o):FnSat Qq 22 args s (Is o):=by
 unfold reGV at h;split at h
 ·rename_i hh p ch se ty be ok ver q now z;cases h;obtain⟨hb,rfl⟩:=aO ho;unfold adOK at hb;split at hb
  ·rename_i a l b d c e hv hw hz;have hL:reV hh p ch se ty be ok ver q now z s=reC hh l ch se ty be ok ver d now e:=by unfold reV;rw[hv,hw,hz]
   rw[hL];simp only[ad]at hb;obtain⟨rfl,rfl,rfl,h1,h2,h3,h4⟩:=hb;refine cx rfl fun B W0 w m rargs hr ha=>?_;obtain⟨x1,r1,q1,q2,rfl⟩:=aj ha;obtain⟨x0,r0,q9,q10,rfl⟩:=aj q2;obtain⟨x2,r2,q3,q4,rfl⟩:=aj q10;obtain⟨x3,r3,q5,q6,rfl⟩:=aj q4;obtain⟨x4,r4,q7,q8,rfl⟩:=aj q6;obtain⟨y1,g1⟩:=o6 (Ψ:=Frz.of w) (m':=[]) (f:=fun y=>lstT y l) (fun y hy=>iR hr hv hy) [.str hh] rfl (b:=[.bool ch,.bool se,.int .u8 ty]) rfl q1;obtain⟨y2,g2⟩:=o6 (Ψ:=Frz.of w) (m':=[]) (f:=fun y=>lstS y d) (fun y hy=>cB hr hw hy) [.bool ok,.int .u16 ver] rfl (b:=[]) rfl q3;have g0:=bJ (Ψ:=Frz.of w) (m':=[]) _ _ rfl q9;have g3:=bJ (Ψ:=Frz.of w) (m':=[]) _ _ rfl q5;have g4:=cB hr hz q7;have g5:=bw (Ψ:=Frz.of w) (m':=[]) _ _ rfl q8;have:=@re_sat (Frz.of w) hh y1 l ch se ty be ok ver y2 d now x4 e (aw h2) (aw h3) (aw h4) h1;exact⟨[.agg [.str hh,lstT y1 l,.bool ch,.bool se,.int .u8 ty],.bool be,.agg [.bool ok,.int .u16 ver,lstS y2 d],.int .i64 now,lstS x4 e],@aI _ (Frz.of w) [] _ _ _ _ g1 (@aI _ (Frz.of w) [] _ _ _ _ g0 (@aI _ (Frz.of w) [] _ _ _ _ g2 (@aI _ (Frz.of w) [] _ _ _ _ g3 (@aI _ (Frz.of w) [] _ _ _ _ g4 g5)))),this⟩
  ·cases hb
 ·cases h
def RND(OK:V→V→List UInt8→St→Bool)(AV:V→V→List UInt8→Int→St→Bool)(JOK:V→List UInt8→V→St→Bool)(JV:V→List UInt8→Int→V→St→Int):Tab:=⟨noT,addS (addS noL 54 (ranyGV OK AV)) 14 (px JOK JV),aT 9⟩
theorem RND_ok:TabOk3 Qq (RND zOK yV rjOK jV):=⟨aJ,bP (bP aK ranyGV_ok) rjudgeG_ok,au 9⟩
theorem rad_tree(OK:V→V→List UInt8→St→Bool)(AV:V→V→List UInt8→Int→St→Bool)(JOK:V→List UInt8→V→St→Bool)(JV:V→List UInt8→Int→V→St→Int)(h:List UInt8)(x:Value)(n:Nat)(cs:List V)(ch se:Bool)(ty:Int)(ok:Bool)(ver:Int)(p:Value)(k:Nat)(ds:List V)(now:Int)(y:Value)(m:Nat)(es:List V)(R:V→Prop):runW Qq (RND OK AV JOK JV) 9 10 21 [.agg [.str h,.lst x n cs,.bool ch,.bool se,.int .u8 ty],.agg [.bool ok,.int .u16 ver,.lst p k ds],.int .i64 now,.lst y m es] R=
  (
 bif !ok then R (.bool false)else bif !se then R (.bool true)else bif decide (ver<771)then R (.bool false)else bif decide ((↑n:Int)>0)then bif OK (.lst x n
 cs) (.lst p k ds) h []then bif !AV (.lst x n cs) (.lst p k ds) h now []then R (.bool false)else bif !ch then R (.bool true)else bif JOK (.lst p k ds) h (.lst y
 m es) []then R (.bool (JV (.lst p k ds) h now (.lst y m es) []==0))else False else False else bif !ch then R (.bool true)else bif JOK (.lst p k ds) h (.lst y m
 es) []then R (.bool (JV (.lst p k ds) h now (.lst y m es) []==0))else False):=by kernel_rfl
def jB(JV:V→List UInt8→Int→V→St→Int)(h:List UInt8)(p y:Value)(k m:Nat)(ds es:List V)(now:Int):=V.int u8 (u8.wrap (2+JV (V.lst p k ds) h now (V.lst y m es) []))
theorem rre_tree(OK:V→V→List UInt8→St→Bool)(AV:V→V→List UInt8→Int→St→Bool)(JOK:V→List UInt8→V→St→Bool)(JV:V→List UInt8→Int→V→St→Int)(h:List UInt8)(x:Value)(n:Nat)(cs:List V)(ch se:Bool)(ty:Int)(be:Bool)(ok:Bool)(ver:Int)(p:Value)(k:Nat)(ds:List V)(now:Int)(y:Value)(m:Nat)(es:List V)(R:V→Prop):runW Qq (RND OK AV JOK JV) 9 10 23 [.agg [.str h,.lst x n cs,.bool ch,.bool se,.int .u8 ty],.bool be,.agg [.bool ok,.int .u16 ver,.lst p k ds],.int .i64 now,.lst y m es] R=
 (
 bif !be then R (.int u8 1)else bif ty==3 then bif !ok then R (.int u8 2)else bif !!se then bif decide (ver<771)then R (.int u8
 2)else bif decide ((↑n:Int)>0)then bif OK (.lst x n cs) (.lst p k ds) h []then bif AV (.lst x n cs) (.lst p k ds) h now []then R (.int u8 0)
 else R (.int u8 2)else False else bif !ch then bif ty !=2 then R (.int u8 0)else bif JOK (.lst p k ds) h (.lst y m es) []then bif JV
 (.lst p k ds) h now (.lst y m es) []==0 then R (.int u8 0)else R (jB JV h p y k m ds es now)else False else bif JOK (.lst p k ds) h (.lst y m
 es) []then bif JV (.lst p k ds) h now (.lst y m es) []==0 then R (.int u8 0)else R (jB JV h p y k m ds es now)else False else bif decide ((↑n
 :Int)>0)then bif OK (.lst x n cs) (.lst p k ds) h []then bif AV (.lst x n cs) (.lst p k ds) h now []then R (.int u8 0)else R (.int
 u8 2)else False else bif !ch then bif ty !=2 then R (.int u8 0)else bif JOK (.lst p k ds) h (.lst y m es) []then bif JV (.lst p k ds) h
 now (.lst y m es) []==0 then R (.int u8 0)else R (jB JV h p y k m ds es now)else False else bif JOK (.lst p k ds) h (.lst y m es) []then bif
 JV (.lst p k ds) h now (.lst y m es) []==0 then R (.int u8 0)else R (jB JV h p y k m ds es now)else False else bif ty==0 then bif !ok then R
 (.int u8 2)else bif !!se then bif decide (ver<771)then R (.int u8 2)else bif decide ((↑n:Int)>0)then bif OK (.lst x n cs) (.lst p k
 ds) h []then bif AV (.lst x n cs) (.lst p k ds) h now []then R (.int u8 0)else R (.int u8 2)else False else bif !ch then bif ty !=2 then
 R (.int u8 0)else bif JOK (.lst p k ds) h (.lst y m es) []then bif JV (.lst p k ds) h now (.lst y m es) []==0 then R (.int u8 0)else R
 (jB JV h p y k m ds es now)else False else bif JOK (.lst p k ds) h (.lst y m es) []then bif JV (.lst p k ds) h now (.lst y m es) []==0 then R (.int
 u8 0)else R (jB JV h p y k m ds es now)else False else bif decide ((↑n:Int)>0)then bif OK (.lst x n cs) (.lst p k ds) h []then bif AV (.lst
 x n cs) (.lst p k ds) h now []then R (.int u8 0)else R (.int u8 2)else False else bif !ch then bif ty !=2 then R (.int u8 0)else
 bif JOK (.lst p k ds) h (.lst y m es) []then bif JV (.lst p k ds) h now (.lst y m es) []==0 then R (.int u8 0)else R (jB JV h p y k m ds es
 now)else False else bif JOK (.lst p k ds) h (.lst y m es) []then bif JV (.lst p k ds) h now (.lst y m es) []==0 then R (.int u8 0)else R (jB
 JV h p y k m ds es now)else False else bif !ok then R (.int u8 2)else bif decide (ver<771)then R (.int u8 2)else bif decide ((↑n:Int)>
 0)then bif OK (.lst x n cs) (.lst p k ds) h []then bif AV (.lst x n cs) (.lst p k ds) h now []then R (.int u8 0)else R (.int u8 2)else
 False else bif !ch then bif ty !=2 then R (.int u8 0)else bif JOK (.lst p k ds) h (.lst y m es) []then bif JV (.lst p k ds) h now (.lst y m es)
 []==0 then R (.int u8 0)else R (jB JV h p y k m ds es now)else False else bif JOK (.lst p k ds) h (.lst y m es) []then bif JV (.lst p k ds) h
 now (.lst y m es) []==0 then R (.int u8 0)else R (jB JV h p y k m ds es now)else False):=by kernel_rfl
def rnK(h:List UInt8)(n:Nat)(cs:List V)(k:Nat)(ds:List V)(m:Nat)(es:List V):Bool:=askK n cs k ds m es&&((ds.map ab).all az&&az h)
theorem rn_see{h:List UInt8}{n:Nat}{cs:List V}{k:Nat}{ds:List V}{m:Nat}{es:List V}(hk:rnK h n cs k ds m es=true)(x p y:Value):
  zOK (.lst x n cs) (.lst p k ds) h []=true∧(∀now,yV (.lst x n cs) (.lst p k ds) h now []=anyC (bx ((tlD cs).take 4)) (ds.map ab) h now)∧rjOK (.lst p k ds) h (.lst y m es) []=true∧(∀now,jV (.lst p k ds) h now (.lst y m es) []=dc h now (es.map ab) (bM (ds.map ab)))∧decide ((n:Int)>0)=!(tlD cs).isEmpty:=by
 unfold rnK askK at hk;simp only[ad]at hk;obtain⟨⟨h1,h2,h3,h4⟩,h5,h6⟩:=hk;obtain⟨l,rfl,rfl,l1,l2⟩:=fL h1;obtain⟨d,rfl,rfl,d1,d2⟩:=cn h2;obtain⟨e,rfl,rfl,e1,e2⟩:=cn h3;rw[l2]at h4;rw[ai]at h5;have vT:eu [] (.lst x l.length (tls l))=some (true,l):=by
  unfold eu cQ;simp only[dV,Nat.mul_comm,a9,i4,ci,bv]
 have vS:∀(z:Value) (r:List (List UInt8)),bC [] (.lst z r.length (strs r))=some (true,r):=fun z r=>by
  unfold bC cQ;simp only[aE,Nat.mul_one,a9,bD,ai,bv]
 rw[l2,ai,ai];refine⟨?_,fun now=>?_,?_,fun now=>?_,?_⟩
 ·unfold zOK;rw[vT,vS];show(true&&(true&&((l.all inU&&(d.all az&&az h))&&(Nat.ble l.length 9223372036854775807&&Nat.ble d.length 9223372036854775807))))=true;rw[h4,h5,h6,ag l1,ag d1];rfl
 ·unfold yV;rw[vT,vS]
 ·unfold rjOK;rw[vS,vS];show(true&&(true&&(Nat.ble d.length 9223372036854775807&&(Nat.ble e.length 9223372036854775807&&(d.all az&&az h)))))=true;rw[h5,h6,ag d1,ag e1];rfl
 ·unfold jV;rw[vS,vS]
 ·cases l<;>simp
def radT(KV:List UInt8→Nat→List V→Nat→List V→Nat→List V→Bool)(AV:List UInt8→List V→Bool→Bool→Bool→Int→List V→Int→List V→Bool):List V→Option (Qx)
 |[.agg [.str h,.lst _ n cs,.bool ch,.bool se,.int .u8 _],.agg [.bool ok,.int .u16 ver,.lst _ k ds],.int .i64 now,.lst _ m es]=>some [(KV h n cs k ds m es,(.bool (AV h cs ch se ok ver ds now es),[]))]
 |_=>none
def radV(h:List UInt8)(cs:List V)(ch se ok:Bool)(ver:Int)(ds:List V)(now:Int)(es:List V):Bool:=adC h (tlD cs) ch se ok ver (ds.map ab) now (es.map ab)
theorem radT_ok(args:List V)(L:Qx)(o:V×St)(h:radT rnK radV args=some L)(ho:aL L=some o):FnSat Qq 21 args [] (Is o):=by
 unfold radT at h;split at h
 ·rename_i hh x n cs ch se ty ok ver p k ds now y m es;cases h;obtain⟨hk,rfl⟩:=aO ho;obtain⟨a1,a2,a3,a4,a5⟩:=rn_see hk x p y;refine ax (lim:=9) (n:=10) aA RND_ok rfl rfl ?_;rw[rad_tree];rw[a1,a2,a3,a4,a5];unfold radV adC askC;have hJ:=qh hh now (es.map ab) (bM (ds.map ab));generalize dc hh now (es.map ab) (bM (ds.map ab))=J at*
  generalize anyC (bx ((tlD cs).take 4)) (ds.map ab) hh now=A;generalize (tlD cs).isEmpty=E;generalize decide (ver<771)=W;cases ok<;>cases se<;>cases W<;>cases E<;>cases A<;>cases ch<;>first|rfl|(rcases hJ with rfl|rfl|rfl|rfl<;>rfl)
 ·cases h
def rreT(KV:List UInt8→Nat→List V→Nat→List V→Nat→List V→Bool)(RV:List UInt8→List V→Bool→Bool→Int→Bool→Bool→Int→List V→Int→List V→Int):List V→Option (Qx)
 |[.agg [.str h,.lst _ n cs,.bool ch,.bool se,.int .u8 ty],.bool be,.agg [.bool ok,.int .u16 ver,.lst _ k ds],.int .i64 now,.lst _ m es]=>some [(KV h n cs k ds m es,(.int .u8 (RV h cs ch se ty be ok ver ds now es),[]))]
 |_=>none
def rreV(h:List UInt8)(cs:List V)(ch se:Bool)(ty:Int)(be ok:Bool)(ver:Int)(ds:List V)(now:Int)(es:List V):Int:=reC h (tlD cs) ch se ty be ok ver (ds.map ab) now (es.map ab)
theorem rreT_ok(args:List V)(L:Qx)(o:V×St)(h:rreT rnK rreV args=some L)(ho:aL L=some o):FnSat Qq 23 args [] (Is o):=by
 unfold rreT at h;split at h
 ·rename_i hh x n cs ch se ty be ok ver p k ds now y m es;cases h;obtain⟨hk,rfl⟩:=aO ho;obtain⟨a1,a2,a3,a4,a5⟩:=rn_see hk x p y;refine ax (lim:=9) (n:=10) aA RND_ok rfl rfl ?_;rw[rre_tree];unfold jB;simp only[bne];rw[a1,a2,a3,a4,a5];unfold rreV reC askC;have hJ:=qh hh now (es.map ab) (bM (ds.map ab));generalize dc hh now (es.map ab) (bM (ds.map ab))=J at*
  generalize anyC (bx ((tlD cs).take 4)) (ds.map ab) hh now=A;generalize (tlD cs).isEmpty=E;generalize decide (ver<771)=W;generalize (ty==0)=T0;generalize (ty==2)=T2;generalize (ty==3)=T3;cases be
  ·rfl
  cases ok<;>cases T0<;>cases T3<;>cases se<;>cases W<;>cases E<;>cases A<;>cases ch<;>cases T2<;>first|rfl|(rcases hJ with rfl|rfl|rfl|rfl<;>rfl)
 ·cases h
def LG0:Tab:=⟨noT,noL,aT 9⟩
theorem LG0_ok:TabOk3 Qq LG0:=⟨aJ,aK,au 9⟩
theorem kD(vs:List V)(h:aM vs=true)(l:List (Option V))(hl:l=vs.map some)(st:St):Fits 0 vs [] l st:=⟨[],vs,hl,aC vs h,FitsM.of trivial,by simp,fun i hi=>by omega⟩
theorem l1_round(x y:Value)(n m:Nat)(cs ds:List V)(a i:Int)(R:Qz):al Qq LG0 9 10 (ah 9) 16 58 [0,1,4,5,6] [.lst x n cs,.lst y m ds,.bool false,.int .i64 a,.int .i64 i] [] R=
  (
 bif decide (i<(↑n:Int))then bif decide (a<6000)then bif decide (0≤i)&&decide (i<(↑n:Int))then bif (i.toNat*1).blt cs.length then bif ar (cs.getD
 (i.toNat*1) (.bool false))then R .normal [some (.lst x n cs),some (.lst y m ds),some (.bool false),some (.int i64 (i64.wrap
 (i64.wrap (a+5)+if(↑(ab (cs.getD (i.toNat*1) (.bool false))).length:Int)<6000 then(↑(ab (cs.getD (i.toNat*1) (.bool false))).length:Int)
 else 6000))),some (.int i64 (i64.wrap (i+1)))] []else False else False else False else R (.exit 0) [some (.lst x n cs),some (.lst y m ds),
 some (.bool false),some (.int i64 a),some (.int i64 i)] []else R (.exit 0) [some (.lst x n cs),some (.lst y m ds),some (.bool false),some
 (.int i64 a),some (.int i64 i)] []):=by kernel_rfl
theorem l2_round(x y:Value)(n m:Nat)(cs ds:List V)(a i:Int)(R:Qz):al Qq LG0 9 10 (ah 9) 16 122 [1,4,5,7] [.lst y m ds,.bool false,.int .i64 a,.int .i64 i] [] R=
  (
 bif decide (i<(↑m:Int))then bif decide (a<6000)then bif decide (0≤i)&&decide (i<(↑m:Int))then bif (i.toNat*4+3).blt ds.length then bif ar
 (ds.getD (i.toNat*4+3) (.bool false))then R .normal [some (.lst y m ds),some (.bool false),some (.int i64 (i64.wrap (i64.wrap (a+
 20)+if(↑(ab (ds.getD (i.toNat*4+3) (.bool false))).length:Int)<6000 then(↑(ab (ds.getD (i.toNat*4+3) (.bool false))).length:Int)else 6000))),
 some (.int i64 (i64.wrap (i+1)))] []else False else False else False else R (.exit 2) [some (.lst y m ds),some (.bool false),some (.int
 i64 a),some (.int i64 i)] []else R (.exit 2) [some (.lst y m ds),some (.bool false),some (.int i64 a),some (.int i64 i)] []):=by kernel_rfl
def l1N:Nat→List (List UInt8)→Nat
 |n,[]=>n
 |n,s::r=>if n<6000 then l1N (n+5+min 6000 s.length) r else n
def l2N:Nat→List TL→Nat
 |n,[]=>n
 |n,s::r=>if n<6000 then l2N (n+20+min 6000 s.d.length) r else n
theorem l1N_le:∀(l:List (List UInt8)) (n:Nat),n≤20000→l1N n l≤20000
 |[],n,h=>h
 |s::r,n,h=>by
  unfold l1N;split
  ·exact l1N_le r _ (by omega)
  ·exact h
structure L1 where
 x:Value
 y:Value
 n:Nat
 m:Nat
 cs:List V
 ds:List V
 a:Nat
 i:Nat
def l1V(q:L1):List V:=[.lst q.x q.n q.cs,.lst q.y q.m q.ds,.bool false,.int .i64 q.a,.int .i64 q.i]
def l1J(_:L1):St:=[]
def mM(q:L1):Bool:=okS q.n q.cs&&(Nat.ble q.i q.n&&Nat.ble q.a 20000)
def l1Mu(q:L1):Nat:=q.n-q.i
def l1Dec:List (Option V)→St→Option L1
 |[some (.lst x n cs),some (.lst y m ds),some (.bool false),some (.int .i64 a),some (.int .i64 0)],_=>some ⟨x,y,n,m,cs,ds,a.toNat,0⟩
 |_,_=>none
def l1S(a:Nat)(cs:List V):Nat:=l1N a (cs.map ab)
def ua(x y:Value)(n m:Nat)(cs ds:List V)(a:Nat)(K:Exit→List V→St→Prop):Prop:=∀j:Nat,K (.exit 0) [.lst x n cs,.lst y m ds,.bool false,.int .i64 a,.int .i64 j] []
def l1Out:Asks L1:=fun q K=>ua q.x q.y q.n q.m q.cs q.ds (l1S q.a (q.cs.drop q.i)) K
theorem l1_roundOk(q:L1)(hx:mM q=true):al Qq LG0 9 10 (ah 9) 16 58 [0,1,4,5,6] (l1V q) (l1J q) (aD 0 mM l1V l1J l1Mu l1Out q):=by
 obtain⟨x,y,n,m,cs,ds,a,i⟩:=q;unfold mM at hx;simp only[ad]at hx;have hx1:okS n cs=true:=hx.1;have p1:i≤n:=aw hx.2.1;have p0:a≤20000:=aw hx.2.2;obtain⟨l,rfl,rfl,p2,p3⟩:=cn hx1;show al Qq LG0 9 10 (ah 9) 16 58 [0,1,4,5,6] [.lst x l.length (strs l),.lst y m ds,.bool false,.int .i64 a,.int .i64 i] [] _;rw[l1_round];have ha:∀b j,l1S b ((strs l).drop j)=l1N b (l.drop j):=fun b j=>by
  unfold l1S;rw[List.map_drop,ai]
 have out:∀K,l1Out ⟨x,y,l.length,m,strs l,ds,a,i⟩ K→ua x y l.length m (strs l) ds (l1N a (l.drop i)) K:=fun K hK=>by
  have hK:ua x y l.length m (strs l) ds (l1S a ((strs l).drop i)) K:=hK;rw[ha]at hK;exact hK
 have fin:l1N a (l.drop i)=a→aD 0 mM l1V l1J l1Mu l1Out ⟨x,y,l.length,m,strs l,ds,a,i⟩ (.exit 0) [some (.lst x l.length (strs l)),some (.lst y m ds),some (.bool false),some (.int .i64 a),some (.int .i64 i)] []:=fun h=>by
  refine⟨[.lst x l.length (strs l),.lst y m ds,.bool false,.int .i64 a,.int .i64 i],_,fun K hK=>?_,kD _ rfl _ rfl _⟩;have hK:=out K hK;rw[h]at hK;exact hK i
 cases hd:l.drop i with
 |nil=>
  have hi:=bY hd p1;rw[bH (show ¬((i:Int)<(l.length:Int)) by omega),ak];exact fin (by rw[hd];rfl)
 |cons c r=>
  obtain⟨e1,e2,e3⟩:=bn hd;obtain⟨e4,e5⟩:=fY hd;rw[am (show((i:Int)<(l.length:Int)) by omega),ae];refine ac (fun h=>?_) (fun h=>?_)
  ·have h:=aN h;have q1:decide ((i:Int)<(l.length:Int))=true:=am (by omega);have q2:decide ((0:Int)≤(i:Int))=true:=am (by omega);simp only[q1,q2,bp,e4,e5,ar,ab,ae,Bool.and_true,show i64.wrap ((i:Int)+1)=((i+1:Nat):Int) by rw[IntWalk.i64_in _ ⟨by omega,by omega⟩];omega];have q3:i64.wrap (i64.wrap ((a:Int)+5)+if(c.length:Int)<6000 then(c.length:Int)else 6000)=((a+5+min 6000 c.length:Nat):Int):=by
    rw[IntWalk.i64_in ((a:Int)+5) ⟨by omega,by omega⟩];split
    ·rw[IntWalk.i64_in _ ⟨by omega,by omega⟩];omega
    ·rw[IntWalk.i64_in _ ⟨by omega,by omega⟩];omega
   rw[q3];refine⟨⟨x,y,l.length,m,strs l,ds,a+5+min 6000 c.length,i+1⟩,?_,kD _ rfl _ rfl _,by simp only[l1Mu];omega,fun K hK=>?_⟩
   ·unfold mM;simp only[ad];exact⟨hx1,ag (show i+1≤l.length by omega),ag (show a+5+min 6000 c.length≤20000 by omega)⟩
   ·have hK:=out K hK;show ua x y l.length m (strs l) ds (l1S (a+5+min 6000 c.length) ((strs l).drop (i+1))) K;rw[ha,e2];rw[hd,l1N,if_pos (by omega)]at hK;exact hK
  ·have h:=bk h;exact fin (by rw[hd,l1N,if_neg (by omega)])
structure L2 where
 y:Value
 m:Nat
 ds:List V
 a:Nat
 i:Nat
def l2V(q:L2):List V:=[.lst q.y q.m q.ds,.bool false,.int .i64 q.a,.int .i64 q.i]
def l2J(_:L2):St:=[]
def mL(q:L2):Bool:=okT q.m q.ds&&(Nat.ble q.i q.m&&Nat.ble q.a 40000)
def l2Mu(q:L2):Nat:=q.m-q.i
def l2Dec:List (Option V)→St→Option L2
 |[some (.lst y m ds),some (.bool false),some (.int .i64 a),some (.int .i64 0)],_=>some ⟨y,m,ds,a.toNat,0⟩
 |_,_=>none
def l2S(a:Nat)(ds:List V)(i:Nat):Nat:=l2N a ((tlD ds).drop i)
def t9(y:Value)(m:Nat)(ds:List V)(a:Nat)(K:Exit→List V→St→Prop):Prop:=∀j:Nat,K (.exit 2) [.lst y m ds,.bool false,.int .i64 a,.int .i64 j] []
def l2Out:Asks L2:=fun q K=>t9 q.y q.m q.ds (l2S q.a q.ds q.i) K
theorem l2_roundOk(q:L2)(hx:mL q=true):al Qq LG0 9 10 (ah 9) 16 122 [1,4,5,7] (l2V q) (l2J q) (aD 0 mL l2V l2J l2Mu l2Out q):=by
 obtain⟨y,m,ds,a,i⟩:=q;unfold mL at hx;simp only[ad]at hx;have hx1:okT m ds=true:=hx.1;have p1:i≤m:=aw hx.2.1;have p0:a≤40000:=aw hx.2.2;obtain⟨l,rfl,rfl,p2,p3⟩:=fL hx1;show al Qq LG0 9 10 (ah 9) 16 122 [1,4,5,7] [.lst y l.length (tls l),.bool false,.int .i64 a,.int .i64 i] [] _;rw[l2_round (.slice none 0 0) y 0 l.length [] (tls l)];have out:∀K,l2Out ⟨y,l.length,tls l,a,i⟩ K→t9 y l.length (tls l) (l2N a (l.drop i)) K:=fun K hK=>by
  have hK:t9 y l.length (tls l) (l2S a (tls l) i) K:=hK;unfold l2S at hK;rw[p3]at hK;exact hK
 have fin:l2N a (l.drop i)=a→aD 0 mL l2V l2J l2Mu l2Out ⟨y,l.length,tls l,a,i⟩ (.exit 2) [some (.lst y l.length (tls l)),some (.bool false),some (.int .i64 a),some (.int .i64 i)] []:=fun h=>by
  refine⟨[.lst y l.length (tls l),.bool false,.int .i64 a,.int .i64 i],_,fun K hK=>?_,kD _ rfl _ rfl _⟩;have hK:=out K hK;rw[h]at hK;exact hK i
 cases hd:l.drop i with
 |nil=>
  have hi:=bY hd p1;rw[bH (show ¬((i:Int)<(l.length:Int)) by omega),ak];exact fin (by rw[hd];rfl)
 |cons c r=>
  obtain⟨e1,e2,e3⟩:=bn hd;obtain⟨f4,f5⟩:=tls_at (j:=3) hd (by omega);have e5:(i*4+3).blt (tls l).length=true:=ag (by rw[Nat.mul_comm i 4];exact f5);have e4:(tls l).getD (i*4+3) (V.bool false)=.str c.d:=by
   rw[bX,Nat.mul_comm i 4,f4];rfl
  rw[am (show((i:Int)<(l.length:Int)) by omega),ae];refine ac (fun h=>?_) (fun h=>?_)
  ·have h:=aN h;have q1:decide ((i:Int)<(l.length:Int))=true:=am (by omega);have q2:decide ((0:Int)≤(i:Int))=true:=am (by omega);simp only[q1,q2,bp,e4,e5,ar,ab,ae,Bool.and_true,show i64.wrap ((i:Int)+1)=((i+1:Nat):Int) by rw[IntWalk.i64_in _ ⟨by omega,by omega⟩];omega];have q3:i64.wrap (i64.wrap ((a:Int)+20)+if(c.d.length:Int)<6000 then(c.d.length:Int)else 6000)=((a+20+min 6000 c.d.length:Nat):Int):=by
    rw[IntWalk.i64_in ((a:Int)+20) ⟨by omega,by omega⟩];split
    ·rw[IntWalk.i64_in _ ⟨by omega,by omega⟩];omega
    ·rw[IntWalk.i64_in _ ⟨by omega,by omega⟩];omega
   rw[q3];refine⟨⟨y,l.length,tls l,a+20+min 6000 c.d.length,i+1⟩,?_,kD _ rfl _ rfl _,by simp only[l2Mu];omega,fun K hK=>?_⟩
   ·unfold mL;simp only[ad];exact⟨hx1,ag (show i+1≤l.length by omega),ag (show a+20+min 6000 c.d.length≤40000 by omega)⟩
   ·have hK:=out K hK;show t9 y l.length (tls l) (l2S (a+20+min 6000 c.d.length) (tls l) (i+1)) K;unfold l2S;rw[p3,e2];rw[hd,l2N,if_pos (by omega)]at hK;exact hK
  ·have h:=bk h;exact fin (by rw[hd,l2N,if_neg (by omega)])
def lkLa:Nat→Trans→Trans:=ba 58 (bK 0 (szOf Qq 16) [0,1,4,5,6] l1Dec mM l1V l1J l1Out) (ah 9)
theorem lkLa_ok:aQ Qq 0 lkLa 16:=by
 unfold lkLa;exact bB (aY 9 0 16) (by kernel_rfl) fun f st Q h=>bc (P:=Qq) (T:=LG0) (k:=0) (lim:=9) (n:=10) (g:=16) (p0:=58) (lk:=ah 9) aA LG0_ok (bf 9 _ _) l1Mu l1_roundOk h
def lkLb:Nat→Trans→Trans:=ba 122 (bK 0 (szOf Qq 16) [1,4,5,7] l2Dec mL l2V l2J l2Out) lkLa
theorem lkLb_ok:aQ Qq 0 lkLb 16:=by
 unfold lkLb;exact bB lkLa_ok (by kernel_rfl) fun f st Q h=>bc (P:=Qq) (T:=LG0) (k:=0) (lim:=9) (n:=10) (g:=16) (p0:=122) (lk:=ah 9) aA LG0_ok (bf 9 _ _) l2Mu l2_roundOk h
def LG1:Tab:=⟨noT,noL,cI (aT 9) 16 0 lkLb⟩
theorem LG1_ok:TabOk3 Qq LG1:=⟨aJ,aK,bq (au 9) lkLb_ok⟩
theorem long_tree(x y:Value)(n m:Nat)(cs ds:List V)(R:V→Prop):runW Qq LG1 9 10 16 [.lst x n cs,.lst y m ds] R=
  (
 Fits 0 [.lst x n cs,.lst y m ds,.bool false,.int i64 0,.int i64 0] [] [some (.lst x n cs),some (.lst y m ds),some (.bool false),some (.int
 i64 0),some (.int i64 0)] []∧bif mM {x:=x,y:=y,n:=n,m:=m,cs:=cs,ds:=ds,a:=0,i:=0}then ∀(j:Nat),Fits 0 [.lst y m ds,
 .bool false,.int i64 (↑(↑(l1S 0 cs):Int).toNat:Int),.int i64 0] [] [some (.lst y m ds),some (.bool false),some (.int i64 (↑(l1S 0
 cs):Int)),some (.int i64 0)] []∧bif mL {y:=y,m:=m,ds:=ds,a:=(↑(l1S 0 cs):Int).toNat,i:=0}then ∀(j:Nat),R (.bool (decide ((↑(l2S
 (↑(l1S 0 cs):Int).toNat ds 0):Int)≥6000)))else False else False):=by kernel_rfl
def longN(l:List (List UInt8))(r:List TL):Nat:=l2N (l1N 0 l) r
def qa(l:List (List UInt8))(r:List TL):Bool:=decide (6000≤(longN l r:Int))
theorem long_sat(x y:Value)(l:List (List UInt8))(r:List TL)(h1:l.length≤9223372036854775807)(h2:r.length≤9223372036854775807):FnSat Qq 16 [lstS x l,lstT y r] [] (Is (.bool (qa l r),[])):=by
 refine ax (lim:=9) (n:=10) aA LG1_ok rfl rfl ?_;unfold lstS lstT;rw[long_tree];have hs:l1S 0 (strs l)=l1N 0 l:=by unfold l1S;rw[ai]
 have ho:okS l.length (strs l)=true:=by
  unfold okS;rw[bD,aE,a9,ag h1];rfl
 have hl:=l1N_le l 0 (by omega);rw[hs,bp];refine⟨kD _ rfl _ rfl _,?_⟩;have e1:mM ⟨x,y,l.length,r.length,strs l,tls r,0,0⟩=true:=by
  unfold mM;show(okS l.length (strs l)&&(Nat.ble 0 l.length&&Nat.ble 0 20000))=true;rw[ho];rfl
 rw[e1,ae];intro j;refine⟨kD _ rfl _ rfl _,?_⟩;have e2:mL ⟨y,r.length,tls r,l1N 0 l,0⟩=true:=by
  unfold mL;show(okT r.length (tls r)&&(Nat.ble 0 r.length&&Nat.ble (l1N 0 l) 40000))=true;rw[ji h2,ag (show l1N 0 l≤40000 by omega)];rfl
 rw[e2,ae];intro j';have e3:l2S (l1N 0 l) (tls r) 0=longN l r:=by unfold l2S longN;rw[ci];rfl
 rw[e3];rfl
def lK(p q:V)(st:St):Bool:=match bC st p,eu st q with
 |some (b,l),some (c,r)=>b&&(c&&(Nat.ble l.length 9223372036854775807&&Nat.ble r.length 9223372036854775807))
 |_,_=>false
def p9(p q:V)(st:St):Bool:=match bC st p,eu st q with
 |some (_,l),some (_,r)=>qa l r
 |_,_=>false
def longGV(OK LB:V→V→St→Bool):List V→St→Option (Qx)
 |[p,q],st=>some [(OK p q st,(.bool (LB p q st),st))]
 |_,_=>none
theorem longG_ok(args:List V)(s:St)(l:Qx)(o:V×St)(h:longGV lK p9 args s=some l)(ho:aL l=some o):FnSat Qq 16 args s (Is o):=by
 unfold longGV at h;split at h
 ·rename_i p q;cases h;obtain⟨hb,rfl⟩:=aO ho;unfold lK at hb;split at hb
  ·rename_i b ls c rs hv hw;simp only[ad]at hb;obtain⟨rfl,rfl,h1,h2⟩:=hb;have hL:p9 p q s=qa ls rs:=by unfold p9;rw[hv,hw]
   rw[hL];refine cx rfl fun B W0 w m rargs hr ha=>?_;obtain⟨x,r,q1,q2,rfl⟩:=aj ha;obtain⟨y,r',q3,q4,rfl⟩:=aj q2;simp only[ap,af]at q4;subst q4;have g1:=cB hr hv q1;have g2:=iR hr hw q3;exact⟨[lstS x ls,lstT y rs],by simp only[ap,g1,g2],@long_sat (Frz.of w) x y ls rs (aw h1) (aw h2)⟩
  ·cases hb
 ·cases h
structure AK where
 plain:Bool
 req:Bool
 host:List UInt8
 mx:Bool
 code:Int
 sec:Bool
 x1:Value
 n1:Nat
 c1:List V
 x2:Value
 n2:Nat
 c2:List V
 x3:Value
 n3:Nat
 c3:List V
 has:Bool
 mode:Int
 x4:Value
 n4:Nat
 c4:List V
 age:Int
def AK.v(a:AK):V:=.agg [.bool a.plain,.bool a.req,.str a.host,.bool a.mx,.int .u8 a.code,.bool a.sec,.lst a.x1 a.n1 a.c1,.lst a.x2 a.n2 a.c2,.lst a.x3 a.n3 a.c3,.bool a.has,.int .u8 a.mode,.lst a.x4 a.n4 a.c4,.int .i64 a.age]
theorem long_nil(x:Value)(l:List (List UInt8))(h:l.length≤9223372036854775807):lK (.lst x l.length (strs l)) .nilSlice []=true:=by
 have e1:bC [] (.lst x l.length (strs l))=some (true,l):=by
  simp only[bC,cQ,aE,Nat.mul_one,a9,bD,ai,bv]
 unfold lK;rw[e1];show(true&&(true&&(Nat.ble l.length 9223372036854775807&&Nat.ble 0 9223372036854775807)))=true;rw[ag h];rfl
end Go.Proofs.YtebkeppoicllmaaGreatDoor
end
