/- Parts of this work: what the functions come to. -/
import Derived.Test.YthcoeoibejgaiaaGreatDoorP3
import Derived.Test.YthcoeoibejgaiaaGreatDoorP2
import Derived.Test.YthcoeoibejgaiaaGreatDoorP1
import Derived.Test.YthcoeoibejgaiaaGreatDoorVmc
import Derived.Test.YthcoeoibejgaiaaGreatDoorVmd
import Derived.Shelf.Strings.OnBuilder
import Derived.Test.YthcoeoibejgaiaaGreatDoorProg
namespace Go.Proofs.YthcoeoibejgaiaaGreatDoor
open Go.IntKind (u8 u16 u32 u64 i8 i16 i32 i64)
open Go Go.Vm Go.RowKit
set_option linter.unusedVariables false
set_option linter.unusedSectionVars false
set_option maxRecDepth 100000
variable [Φ:Frz]
def sM(OK:V→St→Bool)(DV:V→Int→St→Bool):List V→St→Option (List (Bool×(V×St)))
 |[p,.int .i64 now],st=>some [(OK p st,(.bool (DV p now st),st))]
 |_,_=>none
def dOK(p:V)(st:St):Bool:=match p with
 |.agg [.str _,.str _,q,.int .i64 _,.int .i64 _,.bool _]=>match bJ st q with
  |some (b,_)=>b
  |none=>false
 |_=>false
def dDV(p:V)(now:Int)(st:St):Bool:=match p with
 |.agg [.str _,.str _,_,.int .i64 f,.int .i64 u,.bool _]=>aV f u now
 |_=>false
theorem datesGV_ok(args:List V)(s:St)(l:List (Bool×(V×St)))(o:V×St)(h:sM dOK dDV args s=some l)(ho:az l=some o):FnSat Tryz.prog 37 args s (Is o):=by
 unfold sM at h;split at h
 ·rename_i p now;cases h;obtain⟨hk,rfl⟩:=aJ ho;unfold dOK at hk;split at hk
  ·rename_i k g q f u ca;cases hv:bJ s q with
   |none=>rw[hv]at hk;cases hk
   |some a=>
    obtain⟨b,ls⟩:=a;rw[hv]at hk;have hk:b=true:=hk;subst hk;exact rdatesG_ok [.agg [.str k,.str g,q,.int .i64 f,.int .i64 u,.bool ca],.int .i64 now] s [(true,(.bool (aV f u now),s))] _ (by simp only[mw,hv]) rfl
  ·cases hk
 ·cases h
theorem rlinkGV_ok(args:List V)(s:St)(l:List (Bool×(V×St)))(o:V×St)(h:mc rOK bX args s=some l)(ho:az l=some o):FnSat Tryz.prog 36 args s (Is o):=by
 unfold mc at h;split at h
 ·rename_i p;cases h;unfold rOK bX at ho;cases hv:gG s p with
  |none=>rw[hv]at ho;simp[az]at ho
  |some a=>
   rw[hv]at ho;exact rlinkG_ok [p] s _ o (by simp only[qD,hv]) ho
 ·cases h
noncomputable def RX1(OK DK KV:V→St→Bool)(DV:V→Int→St→Bool):Tab:=⟨addT noT 23 rofT,addS (addS noL 37 (sM DK DV)) 36 (mc OK KV),aL 9⟩
theorem RX1_ok:TabOk3 Tryz.prog (RX1 rOK dOK bX dDV):=⟨aE aA rof_ok,cG (cG aB datesGV_ok) rlinkGV_ok,ak 9⟩
theorem rmo_11(OK DK KV:V→St→Bool)(DV:V→Int→St→Bool)(u s m:Int)(d:List UInt8)(x:Value)(n:Nat)(cs:List V)(now:Int)(k0 g0:List UInt8)(n0:Nat)(f0 u0:Int)(c0:Bool)(B C D E:List V)(R:Exit→List (Option V)→St→Prop):ah Tryz.prog (RX1 OK DK KV DV) 9 10 (ad 9) 10 250 [1,3,4,8,9,10] [.lst x n cs,.int .i64 now,.ptr 0 0,.bool false,.slice 1 0 1 false 0 0,.int .i64 1] [.row [.int .u8 u,.int .u8 s,.int .u8 m,.str d] 24 4,.row [.str k0,.str g0,.nos 2 n0,.int .i64 f0,.int .i64 u0,.bool c0] 57 6,.ro true B,.ro true C,.ro true D,.ro true E] R=
  (
 R (.exit 0) [some (.lst x n cs),some (.int i64 now),some (.ptr 0 0),some (.bool false),some (.slice 1 0 1 false 0 0),some (.int i64 1)]
 [.row [.int u8 u,.int u8 s,.int u8 m,.str d] 24 4,.row [.str k0,.str g0,.nos 2 n0,.int i64 f0,.int i64 u0,
 .bool c0] 57 6,.ro true B,.ro true C,.ro true D,.ro true E]):=by kernel_rfl
noncomputable def zT_0(u s m f0 u0 f1 u1:Int)(d k0 g0 k1 g1:List UInt8)(n0 n1:Nat)(c0 c1:Bool)(B C D E:List V):=[Blk.row [V.int u8 u,V.int u8 s,V.int u8 m,V.str d] 24 4,Blk.row [V.str k0,V.str g0,V.nos 2 n0,V.int i64 f0,V.int i64 u0,V.bool c0,V.str k1,V.str g1,V.nos 3 n1,V.int i64 f1,V.int i64 u1,V.bool c1] 57 6,Blk.ro true B,Blk.ro true C,Blk.ro true D,Blk.ro true E]
noncomputable def zT_1(x:Value)(n:Nat)(cs:List V)(now:Int):=[some (V.lst x n cs),some (V.int i64 now),some (V.ptr 0 0),some (V.bool false),some (V.slice 1 0 2 false 0 0),some (V.int i64 2)]
theorem rmo_21(OK DK KV:V→St→Bool)(DV:V→Int→St→Bool)(u s m:Int)(d:List UInt8)(x:Value)(n:Nat)(cs:List V)(now:Int)(k0 g0:List UInt8)(n0:Nat)(f0 u0:Int)(c0:Bool)(k1 g1:List UInt8)(n1:Nat)(f1 u1:Int)(c1:Bool)(B C D E:List V)(R:Exit→List (Option V)→St→Prop):ah Tryz.prog (RX1 OK DK KV DV) 9 10 (ad 9) 10 250 [1,3,4,8,9,10] [.lst x n cs,.int .i64 now,.ptr 0 0,.bool false,.slice 1 0 2 false 0 0,.int .i64 1] [.row [.int .u8 u,.int .u8 s,.int .u8 m,.str d] 24 4,.row [.str k0,.str g0,.nos 2 n0,.int .i64 f0,.int .i64 u0,.bool c0,.str k1,.str g1,.nos 3 n1,.int .i64 f1,.int .i64 u1,.bool c1] 57 6,.ro true B,.ro true C,.ro true D,.ro true E] R=
 (
 bif true&&decide (1<(↑n:Int))then bif Nat.blt 1 cs.length then bif al (cs.getD 1 (.bool false))then bif au (ac (cs.getD 1 (.bool false)))&&
 (u8B s&&u8B m)then bif !ofB u s m (d) (ac (cs.getD 1 (.bool false)))then R .normal (zT_1 x n cs now) (zT_0 u s m f0 u0 f1 u1 d k0 g0 k1 g1 n0 n1 c0
 c1 B C D E)else bif OK (.slice 1 0 2 false 0 0) [.ro false [.int u8 u,.int u8 s,.int u8 m,.str d],.ro false [.str k0,
 .str g0,.nos 2 n0,.int i64 f0,.int i64 u0,.bool c0,.str k1,.str g1,.nos 3 n1,.int i64 f1,.int i64 u1,.bool
 c1],.ro false B,.ro false C,.ro false D,.ro false E]then bif !KV (.slice 1 0 2 false 0 0) [.ro false [.int u8 u,.int u8
 s,.int u8 m,.str d],.ro false [.str k0,.str g0,.nos 2 n0,.int i64 f0,.int i64 u0,.bool c0,.str k1,.str g1,.nos 3
 n1,.int i64 f1,.int i64 u1,.bool c1],.ro false B,.ro false C,.ro false D,.ro false E]then R .normal (zT_1 x n cs now)
 (zT_0 u s m f0 u0 f1 u1 d k0 g0 k1 g1 n0 n1 c0 c1 B C D E)else bif DK (.agg [.str (k0),.str (g0),.nos 2 n0,.int i64 f0,.int i64 u0,
 .bool c0]) (zT_0 u s m f0 u0 f1 u1 d k0 g0 k1 g1 n0 n1 c0 c1 B C D E)then bif DV (.agg [.str (k0),.str (g0),.nos 2 n0,.int i64 f0,.int
 i64 u0,.bool c0]) now (zT_0 u s m f0 u0 f1 u1 d k0 g0 k1 g1 n0 n1 c0 c1 B C D E)then bif DK (.agg [.str (k1),.str (g1),.nos 3 n1,.int
 i64 f1,.int i64 u1,.bool c1]) (zT_0 u s m f0 u0 f1 u1 d k0 g0 k1 g1 n0 n1 c0 c1 B C D E)then bif DV (.agg [.str (k1),.str (g1),.nos 3
 n1,.int i64 f1,.int i64 u1,.bool c1]) now (zT_0 u s m f0 u0 f1 u1 d k0 g0 k1 g1 n0 n1 c0 c1 B C D E)then R .ret [some (.lst x n cs),
 some (.int i64 now),some (.ptr 0 0),some (.bool true),some (.slice 1 0 2 false 0 0),some (.int i64 1)] (zT_0 u s m f0 u0 f1 u1 d k0 g0
 k1 g1 n0 n1 c0 c1 B C D E)else R .normal (zT_1 x n cs now) (zT_0 u s m f0 u0 f1 u1 d k0 g0 k1 g1 n0 n1 c0 c1 B C D E)else False else R .normal (zT_1 x
 n cs now) (zT_0 u s m f0 u0 f1 u1 d k0 g0 k1 g1 n0 n1 c0 c1 B C D E)else False else False else False else False else False else False):=by kernel_rfl
theorem rmo_22(OK DK KV:V→St→Bool)(DV:V→Int→St→Bool)(u s m:Int)(d:List UInt8)(x:Value)(n:Nat)(cs:List V)(now:Int)(k0 g0:List UInt8)(n0:Nat)(f0 u0:Int)(c0:Bool)(k1 g1:List UInt8)(n1:Nat)(f1 u1:Int)(c1:Bool)(B C D E:List V)(R:Exit→List (Option V)→St→Prop):ah Tryz.prog (RX1 OK DK KV DV) 9 10 (ad 9) 10 250 [1,3,4,8,9,10] [.lst x n cs,.int .i64 now,.ptr 0 0,.bool false,.slice 1 0 2 false 0 0,.int .i64 2] [.row [.int .u8 u,.int .u8 s,.int .u8 m,.str d] 24 4,.row [.str k0,.str g0,.nos 2 n0,.int .i64 f0,.int .i64 u0,.bool c0,.str k1,.str g1,.nos 3 n1,.int .i64 f1,.int .i64 u1,.bool c1] 57 6,.ro true B,.ro true C,.ro true D,.ro true E] R=
  (
 R (.exit 0) [some (.lst x n cs),some (.int i64 now),some (.ptr 0 0),some (.bool false),some (.slice 1 0 2 false 0 0),some (.int i64 2)]
 [.row [.int u8 u,.int u8 s,.int u8 m,.str d] 24 4,.row [.str k0,.str g0,.nos 2 n0,.int i64 f0,.int i64 u0,
 .bool c0,.str k1,.str g1,.nos 3 n1,.int i64 f1,.int i64 u1,.bool c1] 57 6,.ro true B,.ro true C,.ro true D,.ro true E]):=by kernel_rfl
noncomputable def zT_2(u s m f0 u0 f1 u1 f2 u2:Int)(d k0 g0 k1 g1 k2 g2:List UInt8)(n0 n1 n2:Nat)(c0 c1 c2:Bool)(B C D E:List V):=[Blk.row [V.int u8 u,V.int u8 s,V.int u8 m,V.str d] 24 4,Blk.row [V.str k0,V.str g0,V.nos 2 n0,V.int i64 f0,V.int i64 u0,V.bool c0,V.str k1,V.str g1,V.nos 3 n1,V.int i64 f1,V.int i64 u1,V.bool c1,V.str k2,V.str g2,V.nos 4 n2,V.int i64 f2,V.int i64 u2,V.bool c2] 57 6,Blk.ro true B,Blk.ro true C,Blk.ro true D,Blk.ro true E]
noncomputable def zT_3(x:Value)(n:Nat)(cs:List V)(now:Int):=[some (V.lst x n cs),some (V.int i64 now),some (V.ptr 0 0),some (V.bool false),some (V.slice 1 0 3 false 0 0),some (V.int i64 2)]
theorem rmo_31(OK DK KV:V→St→Bool)(DV:V→Int→St→Bool)(u s m:Int)(d:List UInt8)(x:Value)(n:Nat)(cs:List V)(now:Int)(k0 g0:List UInt8)(n0:Nat)(f0 u0:Int)(c0:Bool)(k1 g1:List UInt8)(n1:Nat)(f1 u1:Int)(c1:Bool)(k2 g2:List UInt8)(n2:Nat)(f2 u2:Int)(c2:Bool)(B C D E:List V)(R:Exit→List (Option V)→St→Prop):ah Tryz.prog (RX1 OK DK KV DV) 9 10 (ad 9) 10 250 [1,3,4,8,9,10] [.lst x n cs,.int .i64 now,.ptr 0 0,.bool false,.slice 1 0 3 false 0 0,.int .i64 1] [.row [.int .u8 u,.int .u8 s,.int .u8 m,.str d] 24 4,.row [.str k0,.str g0,.nos 2 n0,.int .i64 f0,.int .i64 u0,.bool c0,.str k1,.str g1,.nos 3 n1,.int .i64 f1,.int .i64 u1,.bool c1,.str k2,.str g2,.nos 4 n2,.int .i64 f2,.int .i64 u2,.bool c2] 57 6,.ro true B,.ro true C,.ro true D,.ro true E] R=
 (
 bif true&&decide (1<(↑n:Int))then bif Nat.blt 1 cs.length then bif al (cs.getD 1 (.bool false))then bif au (ac (cs.getD 1 (.bool false)))&&
 (u8B s&&u8B m)then bif !ofB u s m (d) (ac (cs.getD 1 (.bool false)))then R .normal (zT_3 x n cs now) (zT_2 u s m f0 u0 f1 u1 f2 u2 d k0 g0 k1 g1 k2
 g2 n0 n1 n2 c0 c1 c2 B C D E)else bif OK (.slice 1 0 2 false 0 0) [.ro false [.int u8 u,.int u8 s,.int u8 m,.str d],.ro
 false [.str k0,.str g0,.nos 2 n0,.int i64 f0,.int i64 u0,.bool c0,.str k1,.str g1,.nos 3 n1,.int i64 f1,.int
 i64 u1,.bool c1,.str k2,.str g2,.nos 4 n2,.int i64 f2,.int i64 u2,.bool c2],.ro false B,.ro false C,.ro false
 D,.ro false E]then bif !KV (.slice 1 0 2 false 0 0) [.ro false [.int u8 u,.int u8 s,.int u8 m,.str d],.ro false
 [.str k0,.str g0,.nos 2 n0,.int i64 f0,.int i64 u0,.bool c0,.str k1,.str g1,.nos 3 n1,.int i64 f1,.int i64
 u1,.bool c1,.str k2,.str g2,.nos 4 n2,.int i64 f2,.int i64 u2,.bool c2],.ro false B,.ro false C,.ro false D,.ro
 false E]then R .normal (zT_3 x n cs now) (zT_2 u s m f0 u0 f1 u1 f2 u2 d k0 g0 k1 g1 k2 g2 n0 n1 n2 c0 c1 c2 B C D E)else bif DK (.agg [.str (k0),.str
 (g0),.nos 2 n0,.int i64 f0,.int i64 u0,.bool c0]) (zT_2 u s m f0 u0 f1 u1 f2 u2 d k0 g0 k1 g1 k2 g2 n0 n1 n2 c0 c1 c2 B C D E)then bif
 DV (.agg [.str (k0),.str (g0),.nos 2 n0,.int i64 f0,.int i64 u0,.bool c0]) now (zT_2 u s m f0 u0 f1 u1 f2 u2 d k0 g0 k1 g1 k2 g2 n0
 n1 n2 c0 c1 c2 B C D E)then bif DK (.agg [.str (k1),.str (g1),.nos 3 n1,.int i64 f1,.int i64 u1,.bool c1]) (zT_2 u s m f0 u0 f1 u1
 f2 u2 d k0 g0 k1 g1 k2 g2 n0 n1 n2 c0 c1 c2 B C D E)then bif DV (.agg [.str (k1),.str (g1),.nos 3 n1,.int i64 f1,.int i64 u1,.bool
 c1]) now (zT_2 u s m f0 u0 f1 u1 f2 u2 d k0 g0 k1 g1 k2 g2 n0 n1 n2 c0 c1 c2 B C D E)then R .ret [some (.lst x n cs),some (.int i64 now),some
 (.ptr 0 0),some (.bool true),some (.slice 1 0 3 false 0 0),some (.int i64 1)] (zT_2 u s m f0 u0 f1 u1 f2 u2 d k0 g0 k1 g1 k2 g2 n0 n1 n2 c0 c1 c2
 B C D E)else R .normal (zT_3 x n cs now) (zT_2 u s m f0 u0 f1 u1 f2 u2 d k0 g0 k1 g1 k2 g2 n0 n1 n2 c0 c1 c2 B C D E)else False else R .normal (zT_3 x
 n cs now) (zT_2 u s m f0 u0 f1 u1 f2 u2 d k0 g0 k1 g1 k2 g2 n0 n1 n2 c0 c1 c2 B C D E)else False else False else False else False else False else False):=by kernel_rfl
noncomputable def zT_4(u s m f0 u0 f1 u1 f2 u2:Int)(d k0 g0 k1 g1 k2 g2:List UInt8)(n0 n1 n2:Nat)(c0 c1 c2:Bool)(B C D E:List V):=[Blk.row [V.int u8 u,V.int u8 s,V.int u8 m,V.str d] 24 4,Blk.row [V.str k0,V.str g0,V.nos 2 n0,V.int i64 f0,V.int i64 u0,V.bool c0,V.str k1,V.str g1,V.nos 3 n1,V.int i64 f1,V.int i64 u1,V.bool c1,V.str k2,V.str g2,V.nos 4 n2,V.int i64 f2,V.int i64 u2,V.bool c2] 57 6,Blk.ro true B,Blk.ro true C,Blk.ro true D,Blk.ro true E]
noncomputable def zT_5(x:Value)(n:Nat)(cs:List V)(now:Int):=[some (V.lst x n cs),some (V.int i64 now),some (V.ptr 0 0),some (V.bool false),some (V.slice 1 0 3 false 0 0),some (V.int i64 3)]
theorem rmo_32(OK DK KV:V→St→Bool)(DV:V→Int→St→Bool)(u s m:Int)(d:List UInt8)(x:Value)(n:Nat)(cs:List V)(now:Int)(k0 g0:List UInt8)(n0:Nat)(f0 u0:Int)(c0:Bool)(k1 g1:List UInt8)(n1:Nat)(f1 u1:Int)(c1:Bool)(k2 g2:List UInt8)(n2:Nat)(f2 u2:Int)(c2:Bool)(B C D E:List V)(R:Exit→List (Option V)→St→Prop):ah Tryz.prog (RX1 OK DK KV DV) 9 10 (ad 9) 10 250 [1,3,4,8,9,10] [.lst x n cs,.int .i64 now,.ptr 0 0,.bool false,.slice 1 0 3 false 0 0,.int .i64 2] [.row [.int .u8 u,.int .u8 s,.int .u8 m,.str d] 24 4,.row [.str k0,.str g0,.nos 2 n0,.int .i64 f0,.int .i64 u0,.bool c0,.str k1,.str g1,.nos 3 n1,.int .i64 f1,.int .i64 u1,.bool c1,.str k2,.str g2,.nos 4 n2,.int .i64 f2,.int .i64 u2,.bool c2] 57 6,.ro true B,.ro true C,.ro true D,.ro true E] R=
 (
 bif true&&decide (2<(↑n:Int))then bif Nat.blt 2 cs.length then bif al (cs.getD 2 (.bool false))then bif au (ac (cs.getD 2 (.bool false)))&&
 (u8B s&&u8B m)then bif !ofB u s m (d) (ac (cs.getD 2 (.bool false)))then R .normal (zT_5 x n cs now) (zT_4 u s m f0 u0 f1 u1 f2 u2 d k0 g0 k1 g1 k2
 g2 n0 n1 n2 c0 c1 c2 B C D E)else bif OK (.slice 1 0 3 false 0 0) [.ro false [.int u8 u,.int u8 s,.int u8 m,.str d],.ro
 false [.str k0,.str g0,.nos 2 n0,.int i64 f0,.int i64 u0,.bool c0,.str k1,.str g1,.nos 3 n1,.int i64 f1,.int
 i64 u1,.bool c1,.str k2,.str g2,.nos 4 n2,.int i64 f2,.int i64 u2,.bool c2],.ro false B,.ro false C,.ro false
 D,.ro false E]then bif !KV (.slice 1 0 3 false 0 0) [.ro false [.int u8 u,.int u8 s,.int u8 m,.str d],.ro false
 [.str k0,.str g0,.nos 2 n0,.int i64 f0,.int i64 u0,.bool c0,.str k1,.str g1,.nos 3 n1,.int i64 f1,.int i64
 u1,.bool c1,.str k2,.str g2,.nos 4 n2,.int i64 f2,.int i64 u2,.bool c2],.ro false B,.ro false C,.ro false D,.ro
 false E]then R .normal (zT_5 x n cs now) (zT_4 u s m f0 u0 f1 u1 f2 u2 d k0 g0 k1 g1 k2 g2 n0 n1 n2 c0 c1 c2 B C D E)else bif DK (.agg [.str (k0),.str
 (g0),.nos 2 n0,.int i64 f0,.int i64 u0,.bool c0]) (zT_4 u s m f0 u0 f1 u1 f2 u2 d k0 g0 k1 g1 k2 g2 n0 n1 n2 c0 c1 c2 B C D E)then bif
 DV (.agg [.str (k0),.str (g0),.nos 2 n0,.int i64 f0,.int i64 u0,.bool c0]) now (zT_4 u s m f0 u0 f1 u1 f2 u2 d k0 g0 k1 g1 k2 g2 n0
 n1 n2 c0 c1 c2 B C D E)then bif DK (.agg [.str (k1),.str (g1),.nos 3 n1,.int i64 f1,.int i64 u1,.bool c1]) (zT_4 u s m f0 u0 f1 u1
 f2 u2 d k0 g0 k1 g1 k2 g2 n0 n1 n2 c0 c1 c2 B C D E)then bif DV (.agg [.str (k1),.str (g1),.nos 3 n1,.int i64 f1,.int i64 u1,.bool
 c1]) now (zT_4 u s m f0 u0 f1 u1 f2 u2 d k0 g0 k1 g1 k2 g2 n0 n1 n2 c0 c1 c2 B C D E)then bif DK (.agg [.str (k2),.str (g2),.nos 4 n2,.int i64
 f2,.int i64 u2,.bool c2]) (zT_4 u s m f0 u0 f1 u1 f2 u2 d k0 g0 k1 g1 k2 g2 n0 n1 n2 c0 c1 c2 B C D E)then bif DV (.agg [.str (k2),.str (g2),
 .nos 4 n2,.int i64 f2,.int i64 u2,.bool c2]) now (zT_4 u s m f0 u0 f1 u1 f2 u2 d k0 g0 k1 g1 k2 g2 n0 n1 n2 c0 c1 c2 B C D E)then R
 .ret [some (.lst x n cs),some (.int i64 now),some (.ptr 0 0),some (.bool true),some (.slice 1 0 3 false 0 0),some (.int i64 2)]
 (zT_4 u s m f0 u0 f1 u1 f2 u2 d k0 g0 k1 g1 k2 g2 n0 n1 n2 c0 c1 c2 B C D E)else R .normal (zT_5 x n cs now) (zT_4 u s m f0 u0 f1 u1 f2 u2 d k0 g0 k1 g1 k2
 g2 n0 n1 n2 c0 c1 c2 B C D E)else False else R .normal (zT_5 x n cs now) (zT_4 u s m f0 u0 f1 u1 f2 u2 d k0 g0 k1 g1 k2 g2 n0 n1 n2 c0 c1 c2 B C D E)else
 False else R .normal (zT_5 x n cs now) (zT_4 u s m f0 u0 f1 u1 f2 u2 d k0 g0 k1 g1 k2 g2 n0 n1 n2 c0 c1 c2 B C D E)else False else False else False else
 False else False else False):=by kernel_rfl
theorem rmo_33(OK DK KV:V→St→Bool)(DV:V→Int→St→Bool)(u s m:Int)(d:List UInt8)(x:Value)(n:Nat)(cs:List V)(now:Int)(k0 g0:List UInt8)(n0:Nat)(f0 u0:Int)(c0:Bool)(k1 g1:List UInt8)(n1:Nat)(f1 u1:Int)(c1:Bool)(k2 g2:List UInt8)(n2:Nat)(f2 u2:Int)(c2:Bool)(B C D E:List V)(R:Exit→List (Option V)→St→Prop):ah Tryz.prog (RX1 OK DK KV DV) 9 10 (ad 9) 10 250 [1,3,4,8,9,10] [.lst x n cs,.int .i64 now,.ptr 0 0,.bool false,.slice 1 0 3 false 0 0,.int .i64 3] [.row [.int .u8 u,.int .u8 s,.int .u8 m,.str d] 24 4,.row [.str k0,.str g0,.nos 2 n0,.int .i64 f0,.int .i64 u0,.bool c0,.str k1,.str g1,.nos 3 n1,.int .i64 f1,.int .i64 u1,.bool c1,.str k2,.str g2,.nos 4 n2,.int .i64 f2,.int .i64 u2,.bool c2] 57 6,.ro true B,.ro true C,.ro true D,.ro true E] R=
  (
 R (.exit 0) [some (.lst x n cs),some (.int i64 now),some (.ptr 0 0),some (.bool false),some (.slice 1 0 3 false 0 0),some (.int i64 3)]
 [.row [.int u8 u,.int u8 s,.int u8 m,.str d] 24 4,.row [.str k0,.str g0,.nos 2 n0,.int i64 f0,.int i64 u0,
 .bool c0,.str k1,.str g1,.nos 3 n1,.int i64 f1,.int i64 u1,.bool c1,.str k2,.str g2,.nos 4 n2,.int i64 f2,.int i64
 u2,.bool c2] 57 6,.ro true B,.ro true C,.ro true D,.ro true E]):=by kernel_rfl
noncomputable def zT_8(k0 g0 k1 g1 k2 g2 k3 g3:List UInt8)(n0 n1 n2 n3:Nat)(f0 u0 f1 u1 f2 u2 f3 u3:Int)(c0 c1 c2 c3:Bool):=[V.str k0,V.str g0,V.nos 2 n0,V.int i64 f0,V.int i64 u0,V.bool c0,V.str k1,V.str g1,V.nos 3 n1,V.int i64 f1,V.int i64 u1,V.bool c1,V.str k2,V.str g2,V.nos 4 n2,V.int i64 f2,V.int i64 u2,V.bool c2,V.str k3,V.str g3,V.nos 5 n3,V.int i64 f3,V.int i64 u3,V.bool c3]
noncomputable def zT_6(u s m f0 u0 f1 u1 f2 u2 f3 u3:Int)(d k0 g0 k1 g1 k2 g2 k3 g3:List UInt8)(n0 n1 n2 n3:Nat)(c0 c1 c2 c3:Bool)(B C D E:List V):=[Blk.row [V.int u8 u,V.int u8 s,V.int u8 m,V.str d] 24 4,Blk.row (zT_8 k0 g0 k1 g1 k2 g2 k3 g3 n0 n1 n2 n3 f0 u0 f1 u1 f2 u2 f3 u3 c0 c1 c2 c3) 57 6,Blk.ro true B,Blk.ro true C,Blk.ro true D,Blk.ro true E]
noncomputable def zT_7(x:Value)(n:Nat)(cs:List V)(now:Int):=[some (V.lst x n cs),some (V.int i64 now),some (V.ptr 0 0),some (V.bool false),some (V.slice 1 0 4 false 0 0),some (V.int i64 2)]
theorem rmo_41(OK DK KV:V→St→Bool)(DV:V→Int→St→Bool)(u s m:Int)(d:List UInt8)(x:Value)(n:Nat)(cs:List V)(now:Int)(k0 g0:List UInt8)(n0:Nat)(f0 u0:Int)(c0:Bool)(k1 g1:List UInt8)(n1:Nat)(f1 u1:Int)(c1:Bool)(k2 g2:List UInt8)(n2:Nat)(f2 u2:Int)(c2:Bool)(k3 g3:List UInt8)(n3:Nat)(f3 u3:Int)(c3:Bool)(B C D E:List V)(R:Exit→List (Option V)→St→Prop):ah Tryz.prog (RX1 OK DK KV DV) 9 10 (ad 9) 10 250 [1,3,4,8,9,10] [.lst x n cs,.int .i64 now,.ptr 0 0,.bool false,.slice 1 0 4 false 0 0,.int .i64 1] [.row [.int .u8 u,.int .u8 s,.int .u8 m,.str d] 24 4,.row [.str k0,.str g0,.nos 2 n0,.int .i64 f0,.int .i64 u0,.bool c0,.str k1,.str g1,.nos 3 n1,.int .i64 f1,.int .i64 u1,.bool c1,.str k2,.str g2,.nos 4 n2,.int .i64 f2,.int .i64 u2,.bool c2,.str k3,.str g3,.nos 5 n3,.int .i64 f3,.int .i64 u3,.bool c3] 57 6,.ro true B,.ro true C,.ro true D,.ro true E] R=
 (
 bif true&&decide (1<(↑n:Int))then bif Nat.blt 1 cs.length then bif al (cs.getD 1 (.bool false))then bif au (ac (cs.getD 1 (.bool false)))&&
 (u8B s&&u8B m)then bif !ofB u s m (d) (ac (cs.getD 1 (.bool false)))then R .normal (zT_7 x n cs now) (zT_6 u s m f0 u0 f1 u1 f2 u2 f3 u3 d k0 g0 k1
 g1 k2 g2 k3 g3 n0 n1 n2 n3 c0 c1 c2 c3 B C D E)else bif OK (.slice 1 0 2 false 0 0) [.ro false [.int u8 u,.int u8 s,.int u8 m,
 .str d],.ro false (zT_8 k0 g0 k1 g1 k2 g2 k3 g3 n0 n1 n2 n3 f0 u0 f1 u1 f2 u2 f3 u3 c0 c1 c2 c3),.ro false B,.ro false C,.ro false D,.ro
 false E]then bif !KV (.slice 1 0 2 false 0 0) [.ro false [.int u8 u,.int u8 s,.int u8 m,.str d],.ro false (zT_8 k0 g0 k1
 g1 k2 g2 k3 g3 n0 n1 n2 n3 f0 u0 f1 u1 f2 u2 f3 u3 c0 c1 c2 c3),.ro false B,.ro false C,.ro false D,.ro false E]then R .normal (zT_7 x n cs
 now) (zT_6 u s m f0 u0 f1 u1 f2 u2 f3 u3 d k0 g0 k1 g1 k2 g2 k3 g3 n0 n1 n2 n3 c0 c1 c2 c3 B C D E)else bif DK (.agg [.str (k0),.str (g0),.nos 2 n0,.int
 i64 f0,.int i64 u0,.bool c0]) (zT_6 u s m f0 u0 f1 u1 f2 u2 f3 u3 d k0 g0 k1 g1 k2 g2 k3 g3 n0 n1 n2 n3 c0 c1 c2 c3 B C D E)then bif DV
 (.agg [.str (k0),.str (g0),.nos 2 n0,.int i64 f0,.int i64 u0,.bool c0]) now (zT_6 u s m f0 u0 f1 u1 f2 u2 f3 u3 d k0 g0 k1 g1 k2 g2
 k3 g3 n0 n1 n2 n3 c0 c1 c2 c3 B C D E)then bif DK (.agg [.str (k1),.str (g1),.nos 3 n1,.int i64 f1,.int i64 u1,.bool c1]) (zT_6 u s
 m f0 u0 f1 u1 f2 u2 f3 u3 d k0 g0 k1 g1 k2 g2 k3 g3 n0 n1 n2 n3 c0 c1 c2 c3 B C D E)then bif DV (.agg [.str (k1),.str (g1),.nos 3 n1,.int i64
 f1,.int i64 u1,.bool c1]) now (zT_6 u s m f0 u0 f1 u1 f2 u2 f3 u3 d k0 g0 k1 g1 k2 g2 k3 g3 n0 n1 n2 n3 c0 c1 c2 c3 B C D E)then R .ret [some
 (.lst x n cs),some (.int i64 now),some (.ptr 0 0),some (.bool true),some (.slice 1 0 4 false 0 0),some (.int i64 1)] (zT_6 u s m f0 u0
 f1 u1 f2 u2 f3 u3 d k0 g0 k1 g1 k2 g2 k3 g3 n0 n1 n2 n3 c0 c1 c2 c3 B C D E)else R .normal (zT_7 x n cs now) (zT_6 u s m f0 u0 f1 u1 f2 u2 f3 u3 d k0 g0 k1
 g1 k2 g2 k3 g3 n0 n1 n2 n3 c0 c1 c2 c3 B C D E)else False else R .normal (zT_7 x n cs now) (zT_6 u s m f0 u0 f1 u1 f2 u2 f3 u3 d k0 g0 k1 g1 k2 g2 k3 g3 n0
 n1 n2 n3 c0 c1 c2 c3 B C D E)else False else False else False else False else False else False):=by kernel_rfl
noncomputable def zT_11(k0 g0 k1 g1 k2 g2 k3 g3:List UInt8)(n0 n1 n2 n3:Nat)(f0 u0 f1 u1 f2 u2 f3 u3:Int)(c0 c1 c2 c3:Bool):=[V.str k0,V.str g0,V.nos 2 n0,V.int i64 f0,V.int i64 u0,V.bool c0,V.str k1,V.str g1,V.nos 3 n1,V.int i64 f1,V.int i64 u1,V.bool c1,V.str k2,V.str g2,V.nos 4 n2,V.int i64 f2,V.int i64 u2,V.bool c2,V.str k3,V.str g3,V.nos 5 n3,V.int i64 f3,V.int i64 u3,V.bool c3]
noncomputable def zT_9(u s m f0 u0 f1 u1 f2 u2 f3 u3:Int)(d k0 g0 k1 g1 k2 g2 k3 g3:List UInt8)(n0 n1 n2 n3:Nat)(c0 c1 c2 c3:Bool)(B C D E:List V):=[Blk.row [V.int u8 u,V.int u8 s,V.int u8 m,V.str d] 24 4,Blk.row (zT_11 k0 g0 k1 g1 k2 g2 k3 g3 n0 n1 n2 n3 f0 u0 f1 u1 f2 u2 f3 u3 c0 c1 c2 c3) 57 6,Blk.ro true B,Blk.ro true C,Blk.ro true D,Blk.ro true E]
noncomputable def pO(x:Value)(n:Nat)(cs:List V)(now:Int):=[some (V.lst x n cs),some (V.int i64 now),some (V.ptr 0 0),some (V.bool false),some (V.slice 1 0 4 false 0 0),some (V.int i64 3)]
theorem rmo_42(OK DK KV:V→St→Bool)(DV:V→Int→St→Bool)(u s m:Int)(d:List UInt8)(x:Value)(n:Nat)(cs:List V)(now:Int)(k0 g0:List UInt8)(n0:Nat)(f0 u0:Int)(c0:Bool)(k1 g1:List UInt8)(n1:Nat)(f1 u1:Int)(c1:Bool)(k2 g2:List UInt8)(n2:Nat)(f2 u2:Int)(c2:Bool)(k3 g3:List UInt8)(n3:Nat)(f3 u3:Int)(c3:Bool)(B C D E:List V)(R:Exit→List (Option V)→St→Prop):ah Tryz.prog (RX1 OK DK KV DV) 9 10 (ad 9) 10 250 [1,3,4,8,9,10] [.lst x n cs,.int .i64 now,.ptr 0 0,.bool false,.slice 1 0 4 false 0 0,.int .i64 2] [.row [.int .u8 u,.int .u8 s,.int .u8 m,.str d] 24 4,.row [.str k0,.str g0,.nos 2 n0,.int .i64 f0,.int .i64 u0,.bool c0,.str k1,.str g1,.nos 3 n1,.int .i64 f1,.int .i64 u1,.bool c1,.str k2,.str g2,.nos 4 n2,.int .i64 f2,.int .i64 u2,.bool c2,.str k3,.str g3,.nos 5 n3,.int .i64 f3,.int .i64 u3,.bool c3] 57 6,.ro true B,.ro true C,.ro true D,.ro true E] R=
 (
 bif true&&decide (2<(↑n:Int))then bif Nat.blt 2 cs.length then bif al (cs.getD 2 (.bool false))then bif au (ac (cs.getD 2 (.bool false)))&&
 (u8B s&&u8B m)then bif !ofB u s m (d) (ac (cs.getD 2 (.bool false)))then R .normal (pO x n cs now) (zT_9 u s m f0 u0 f1 u1 f2 u2 f3 u3 d k0 g0 k1
 g1 k2 g2 k3 g3 n0 n1 n2 n3 c0 c1 c2 c3 B C D E)else bif OK (.slice 1 0 3 false 0 0) [.ro false [.int u8 u,.int u8 s,.int u8 m,
 .str d],.ro false (zT_11 k0 g0 k1 g1 k2 g2 k3 g3 n0 n1 n2 n3 f0 u0 f1 u1 f2 u2 f3 u3 c0 c1 c2 c3),.ro false B,.ro false C,.ro false D,.ro
 false E]then bif !KV (.slice 1 0 3 false 0 0) [.ro false [.int u8 u,.int u8 s,.int u8 m,.str d],.ro false (zT_11 k0 g0 k1
 g1 k2 g2 k3 g3 n0 n1 n2 n3 f0 u0 f1 u1 f2 u2 f3 u3 c0 c1 c2 c3),.ro false B,.ro false C,.ro false D,.ro false E]then R .normal (pO x n cs
 now) (zT_9 u s m f0 u0 f1 u1 f2 u2 f3 u3 d k0 g0 k1 g1 k2 g2 k3 g3 n0 n1 n2 n3 c0 c1 c2 c3 B C D E)else bif DK (.agg [.str (k0),.str (g0),.nos 2 n0,.int
 i64 f0,.int i64 u0,.bool c0]) (zT_9 u s m f0 u0 f1 u1 f2 u2 f3 u3 d k0 g0 k1 g1 k2 g2 k3 g3 n0 n1 n2 n3 c0 c1 c2 c3 B C D E)then bif DV
 (.agg [.str (k0),.str (g0),.nos 2 n0,.int i64 f0,.int i64 u0,.bool c0]) now (zT_9 u s m f0 u0 f1 u1 f2 u2 f3 u3 d k0 g0 k1 g1 k2 g2
 k3 g3 n0 n1 n2 n3 c0 c1 c2 c3 B C D E)then bif DK (.agg [.str (k1),.str (g1),.nos 3 n1,.int i64 f1,.int i64 u1,.bool c1]) (zT_9 u s
 m f0 u0 f1 u1 f2 u2 f3 u3 d k0 g0 k1 g1 k2 g2 k3 g3 n0 n1 n2 n3 c0 c1 c2 c3 B C D E)then bif DV (.agg [.str (k1),.str (g1),.nos 3 n1,.int i64
 f1,.int i64 u1,.bool c1]) now (zT_9 u s m f0 u0 f1 u1 f2 u2 f3 u3 d k0 g0 k1 g1 k2 g2 k3 g3 n0 n1 n2 n3 c0 c1 c2 c3 B C D E)then bif DK (.agg
 [.str (k2),.str (g2),.nos 4 n2,.int i64 f2,.int i64 u2,.bool c2]) (zT_9 u s m f0 u0 f1 u1 f2 u2 f3 u3 d k0 g0 k1 g1 k2 g2 k3 g3 n0 n1
 n2 n3 c0 c1 c2 c3 B C D E)then bif DV (.agg [.str (k2),.str (g2),.nos 4 n2,.int i64 f2,.int i64 u2,.bool c2]) now (zT_9 u s m f0 u0
 f1 u1 f2 u2 f3 u3 d k0 g0 k1 g1 k2 g2 k3 g3 n0 n1 n2 n3 c0 c1 c2 c3 B C D E)then R .ret [some (.lst x n cs),some (.int i64 now),some (.ptr 0
 0),some (.bool true),some (.slice 1 0 4 false 0 0),some (.int i64 2)] (zT_9 u s m f0 u0 f1 u1 f2 u2 f3 u3 d k0 g0 k1 g1 k2 g2 k3 g3 n0 n1 n2 n3 c0
 c1 c2 c3 B C D E)else R .normal (pO x n cs now) (zT_9 u s m f0 u0 f1 u1 f2 u2 f3 u3 d k0 g0 k1 g1 k2 g2 k3 g3 n0 n1 n2 n3 c0 c1 c2 c3 B C D E)else False
 else R .normal (pO x n cs now) (zT_9 u s m f0 u0 f1 u1 f2 u2 f3 u3 d k0 g0 k1 g1 k2 g2 k3 g3 n0 n1 n2 n3 c0 c1 c2 c3 B C D E)else False else R
 .normal (pO x n cs now) (zT_9 u s m f0 u0 f1 u1 f2 u2 f3 u3 d k0 g0 k1 g1 k2 g2 k3 g3 n0 n1 n2 n3 c0 c1 c2 c3 B C D E)else False else False else False
 else False else False else False):=by kernel_rfl
noncomputable def zT_14(k0 g0 k1 g1 k2 g2 k3 g3:List UInt8)(n0 n1 n2 n3:Nat)(f0 u0 f1 u1 f2 u2 f3 u3:Int)(c0 c1 c2 c3:Bool):=[V.str k0,V.str g0,V.nos 2 n0,V.int i64 f0,V.int i64 u0,V.bool c0,V.str k1,V.str g1,V.nos 3 n1,V.int i64 f1,V.int i64 u1,V.bool c1,V.str k2,V.str g2,V.nos 4 n2,V.int i64 f2,V.int i64 u2,V.bool c2,V.str k3,V.str g3,V.nos 5 n3,V.int i64 f3,V.int i64 u3,V.bool c3]
noncomputable def fK(u s m f0 u0 f1 u1 f2 u2 f3 u3:Int)(d k0 g0 k1 g1 k2 g2 k3 g3:List UInt8)(n0 n1 n2 n3:Nat)(c0 c1 c2 c3:Bool)(B C D E:List V):=[Blk.row [V.int u8 u,V.int u8 s,V.int u8 m,V.str d] 24 4,Blk.row (zT_14 k0 g0 k1 g1 k2 g2 k3 g3 n0 n1 n2 n3 f0 u0 f1 u1 f2 u2 f3 u3 c0 c1 c2 c3) 57 6,Blk.ro true B,Blk.ro true C,Blk.ro true D,Blk.ro true E]
noncomputable def nH(x:Value)(n:Nat)(cs:List V)(now:Int):=[some (V.lst x n cs),some (V.int i64 now),some (V.ptr 0 0),some (V.bool false),some (V.slice 1 0 4 false 0 0),some (V.int i64 4)]
theorem rmo_43(OK DK KV:V→St→Bool)(DV:V→Int→St→Bool)(u s m:Int)(d:List UInt8)(x:Value)(n:Nat)(cs:List V)(now:Int)(k0 g0:List UInt8)(n0:Nat)(f0 u0:Int)(c0:Bool)(k1 g1:List UInt8)(n1:Nat)(f1 u1:Int)(c1:Bool)(k2 g2:List UInt8)(n2:Nat)(f2 u2:Int)(c2:Bool)(k3 g3:List UInt8)(n3:Nat)(f3 u3:Int)(c3:Bool)(B C D E:List V)(R:Exit→List (Option V)→St→Prop):ah Tryz.prog (RX1 OK DK KV DV) 9 10 (ad 9) 10 250 [1,3,4,8,9,10] [.lst x n cs,.int .i64 now,.ptr 0 0,.bool false,.slice 1 0 4 false 0 0,.int .i64 3] [.row [.int .u8 u,.int .u8 s,.int .u8 m,.str d] 24 4,.row [.str k0,.str g0,.nos 2 n0,.int .i64 f0,.int .i64 u0,.bool c0,.str k1,.str g1,.nos 3 n1,.int .i64 f1,.int .i64 u1,.bool c1,.str k2,.str g2,.nos 4 n2,.int .i64 f2,.int .i64 u2,.bool c2,.str k3,.str g3,.nos 5 n3,.int .i64 f3,.int .i64 u3,.bool c3] 57 6,.ro true B,.ro true C,.ro true D,.ro true E] R=
 (
 bif true&&decide (3<(↑n:Int))then bif Nat.blt 3 cs.length then bif al (cs.getD 3 (.bool false))then bif au (ac (cs.getD 3 (.bool false)))&&
 (u8B s&&u8B m)then bif !ofB u s m (d) (ac (cs.getD 3 (.bool false)))then R .normal (nH x n cs now) (fK u s m f0 u0 f1 u1 f2 u2 f3 u3 d k0 g0
 k1 g1 k2 g2 k3 g3 n0 n1 n2 n3 c0 c1 c2 c3 B C D E)else bif OK (.slice 1 0 4 false 0 0) [.ro false [.int u8 u,.int u8 s,.int u8
 m,.str d],.ro false (zT_14 k0 g0 k1 g1 k2 g2 k3 g3 n0 n1 n2 n3 f0 u0 f1 u1 f2 u2 f3 u3 c0 c1 c2 c3),.ro false B,.ro false C,.ro false D,.ro
 false E]then bif !KV (.slice 1 0 4 false 0 0) [.ro false [.int u8 u,.int u8 s,.int u8 m,.str d],.ro false (zT_14 k0 g0 k1
 g1 k2 g2 k3 g3 n0 n1 n2 n3 f0 u0 f1 u1 f2 u2 f3 u3 c0 c1 c2 c3),.ro false B,.ro false C,.ro false D,.ro false E]then R .normal (nH x n cs
 now) (fK u s m f0 u0 f1 u1 f2 u2 f3 u3 d k0 g0 k1 g1 k2 g2 k3 g3 n0 n1 n2 n3 c0 c1 c2 c3 B C D E)else bif DK (.agg [.str (k0),.str (g0),.nos 2 n0,
 .int i64 f0,.int i64 u0,.bool c0]) (fK u s m f0 u0 f1 u1 f2 u2 f3 u3 d k0 g0 k1 g1 k2 g2 k3 g3 n0 n1 n2 n3 c0 c1 c2 c3 B C D E)then bif
 DV (.agg [.str (k0),.str (g0),.nos 2 n0,.int i64 f0,.int i64 u0,.bool c0]) now (fK u s m f0 u0 f1 u1 f2 u2 f3 u3 d k0 g0 k1 g1 k2
 g2 k3 g3 n0 n1 n2 n3 c0 c1 c2 c3 B C D E)then bif DK (.agg [.str (k1),.str (g1),.nos 3 n1,.int i64 f1,.int i64 u1,.bool c1]) (fK
 u s m f0 u0 f1 u1 f2 u2 f3 u3 d k0 g0 k1 g1 k2 g2 k3 g3 n0 n1 n2 n3 c0 c1 c2 c3 B C D E)then bif DV (.agg [.str (k1),.str (g1),.nos 3 n1,.int
 i64 f1,.int i64 u1,.bool c1]) now (fK u s m f0 u0 f1 u1 f2 u2 f3 u3 d k0 g0 k1 g1 k2 g2 k3 g3 n0 n1 n2 n3 c0 c1 c2 c3 B C D E)then bif DK
 (.agg [.str (k2),.str (g2),.nos 4 n2,.int i64 f2,.int i64 u2,.bool c2]) (fK u s m f0 u0 f1 u1 f2 u2 f3 u3 d k0 g0 k1 g1 k2 g2 k3
 g3 n0 n1 n2 n3 c0 c1 c2 c3 B C D E)then bif DV (.agg [.str (k2),.str (g2),.nos 4 n2,.int i64 f2,.int i64 u2,.bool c2]) now (fK u
 s m f0 u0 f1 u1 f2 u2 f3 u3 d k0 g0 k1 g1 k2 g2 k3 g3 n0 n1 n2 n3 c0 c1 c2 c3 B C D E)then bif DK (.agg [.str (k3),.str (g3),.nos 5 n3,.int i64
 f3,.int i64 u3,.bool c3]) (fK u s m f0 u0 f1 u1 f2 u2 f3 u3 d k0 g0 k1 g1 k2 g2 k3 g3 n0 n1 n2 n3 c0 c1 c2 c3 B C D E)then bif DV (.agg [.str
 (k3),.str (g3),.nos 5 n3,.int i64 f3,.int i64 u3,.bool c3]) now (fK u s m f0 u0 f1 u1 f2 u2 f3 u3 d k0 g0 k1 g1 k2 g2 k3 g3 n0 n1 n2
 n3 c0 c1 c2 c3 B C D E)then R .ret [some (.lst x n cs),some (.int i64 now),some (.ptr 0 0),some (.bool true),some (.slice 1 0 4 false 0 0),
 some (.int i64 3)] (fK u s m f0 u0 f1 u1 f2 u2 f3 u3 d k0 g0 k1 g1 k2 g2 k3 g3 n0 n1 n2 n3 c0 c1 c2 c3 B C D E)else R .normal (nH x n cs now)
 (fK u s m f0 u0 f1 u1 f2 u2 f3 u3 d k0 g0 k1 g1 k2 g2 k3 g3 n0 n1 n2 n3 c0 c1 c2 c3 B C D E)else False else R .normal (nH x n cs now) (fK u s m f0
 u0 f1 u1 f2 u2 f3 u3 d k0 g0 k1 g1 k2 g2 k3 g3 n0 n1 n2 n3 c0 c1 c2 c3 B C D E)else False else R .normal (nH x n cs now) (fK u s m f0 u0 f1 u1 f2 u2
 f3 u3 d k0 g0 k1 g1 k2 g2 k3 g3 n0 n1 n2 n3 c0 c1 c2 c3 B C D E)else False else R .normal (nH x n cs now) (fK u s m f0 u0 f1 u1 f2 u2 f3 u3 d k0 g0 k1
 g1 k2 g2 k3 g3 n0 n1 n2 n3 c0 c1 c2 c3 B C D E)else False else False else False else False else False else False):=by kernel_rfl
theorem rmo_44(OK DK KV:V→St→Bool)(DV:V→Int→St→Bool)(u s m:Int)(d:List UInt8)(x:Value)(n:Nat)(cs:List V)(now:Int)(k0 g0:List UInt8)(n0:Nat)(f0 u0:Int)(c0:Bool)(k1 g1:List UInt8)(n1:Nat)(f1 u1:Int)(c1:Bool)(k2 g2:List UInt8)(n2:Nat)(f2 u2:Int)(c2:Bool)(k3 g3:List UInt8)(n3:Nat)(f3 u3:Int)(c3:Bool)(B C D E:List V)(R:Exit→List (Option V)→St→Prop):ah Tryz.prog (RX1 OK DK KV DV) 9 10 (ad 9) 10 250 [1,3,4,8,9,10] [.lst x n cs,.int .i64 now,.ptr 0 0,.bool false,.slice 1 0 4 false 0 0,.int .i64 4] [.row [.int .u8 u,.int .u8 s,.int .u8 m,.str d] 24 4,.row [.str k0,.str g0,.nos 2 n0,.int .i64 f0,.int .i64 u0,.bool c0,.str k1,.str g1,.nos 3 n1,.int .i64 f1,.int .i64 u1,.bool c1,.str k2,.str g2,.nos 4 n2,.int .i64 f2,.int .i64 u2,.bool c2,.str k3,.str g3,.nos 5 n3,.int .i64 f3,.int .i64 u3,.bool c3] 57 6,.ro true B,.ro true C,.ro true D,.ro true E] R=
  (
 R (.exit 0) [some (.lst x n cs),some (.int i64 now),some (.ptr 0 0),some (.bool false),some (.slice 1 0 4 false 0 0),some (.int i64 4)]
 [.row [.int u8 u,.int u8 s,.int u8 m,.str d] 24 4,.row [.str k0,.str g0,.nos 2 n0,.int i64 f0,.int i64 u0,
 .bool c0,.str k1,.str g1,.nos 3 n1,.int i64 f1,.int i64 u1,.bool c1,.str k2,.str g2,.nos 4 n2,.int i64 f2,.int i64
 u2,.bool c2,.str k3,.str g3,.nos 5 n3,.int i64 f3,.int i64 u3,.bool c3] 57 6,.ro true B,.ro true C,.ro true D,.ro true E]):=by kernel_rfl
theorem vs_at{st:St}{z:Bool}{k:Nat}{s:List UInt8}(h:st[k]?=some (.ro z (strs (dL s)))):bJ st (.nos k (dN s))=some (true,dL s):=by
 unfold bJ cH dN;simp only[h,Nat.mul_one,aF];rw[List.take_of_length_le (by rw[aF];exact Nat.le_refl _),bZ,ao,aF,Nat.beq_refl,Nat.ble_eq_true_of_le (Nat.le_refl _)];rfl
def rA(l:List (List UInt8)):List V:=bif Nat.beq (rdN l) 0 then[]else av 1 (rdA (rdG l 0) 1 (rdT l))
def rB(l:List (List UInt8)):List V:=av 1 (strs (dL (rdG l 0)))
def rNm(l:List (List UInt8))(i:Nat):List V:=av 1 (nmR l i)
theorem mJ(l:List (List UInt8)):rB l=strs (dL (rdG l 0)):=fh _ _
theorem fk{l:List (List UInt8)}{i:Nat}(h:i<rdN l):rNm l i=strs (dL (rdG l i)):=by
 have e:Nat.blt i (rdN l)=true:=Nat.ble_eq_true_of_le h;unfold rNm nmR;rw[e,cond_true];exact fh _ _
structure RtAt (st:St) (l:List (List UInt8)):Prop where
 b2:(∃t sz,st[1]?=some (.row (rA l) t sz))∨∃z,st[1]?=some (.ro z (rA l))
 b3:∃z,st[2]?=some (.ro z (rB l))
 b4:∃z,st[3]?=some (.ro z (rNm l 1))
 b5:∃z,st[4]?=some (.ro z (rNm l 2))
 b6:∃z,st[5]?=some (.ro z (rNm l 3))
theorem rt_cr{st:St}{l:List (List UInt8)}(h:RtAt st l)(h0:rdN l≠0):isCr st (rA l)=true∧crD st (rA l)=cv l:=by
 have h4:=(ci l).1;obtain⟨z3,g3⟩:=h.b3;obtain⟨z4,g4⟩:=h.b4;obtain⟨z5,g5⟩:=h.b5;obtain⟨z6,g6⟩:=h.b6;rw[mJ]at g3;rcases(by omega:rdN l=1∨rdN l=2∨rdN l=3∨rdN l=4)with hj|hj|hj|hj
 ·have e:rA l=rdA (rdG l 0) 2 []:=by unfold rA rdT;rw[hj];rfl
  rw[e,cC hj,(ba g3).1,(ba g3).2];exact⟨rfl,rfl⟩
 ·have e:rA l=rdA (rdG l 0) 2 (rdA (rdG l 1) 3 []):=by unfold rA rdT;rw[hj];rfl
  rw[fk (by omega)]at g4;rw[e,cC hj,(ba g3).1,(ba g3).2,(ba g4).1,(ba g4).2];exact⟨rfl,rfl⟩
 ·have e:rA l=rdA (rdG l 0) 2 (rdA (rdG l 1) 3 (rdA (rdG l 2) 4 [])):=by unfold rA rdT;rw[hj];rfl
  rw[fk (by omega)]at g4 g5;rw[e,cC hj,(ba g3).1,(ba g3).2,(ba g4).1,(ba g4).2,(ba g5).1,(ba g5).2];exact⟨rfl,rfl⟩
 ·have e:rA l=rdA (rdG l 0) 2 (rdA (rdG l 1) 3 (rdA (rdG l 2) 4 (rdA (rdG l 3) 5 []))):=by unfold rA rdT;rw[hj];rfl
  rw[fk (by omega)]at g4 g5 g6;rw[e,cC hj,(ba g3).1,(ba g3).2,(ba g4).1,(ba g4).2,(ba g5).1,(ba g5).2,(ba g6).1,(ba g6).2];exact⟨rfl,rfl⟩
theorem rt_view{st:St}{l:List (List UInt8)}(h:RtAt st l)(h0:rdN l≠0){j:Nat}(hj:j≤rdN l):gG st (.slice 1 0 j false 0 0)=some (true,(cv l).take j):=by
 obtain⟨c1,c2⟩:=rt_cr h h0;have hv:cH st 6 (.slice 1 0 j false 0 0)=some (Nat.ble (0+j*6) (rA l).length,(j,((rA l).drop 0).take (j*6))):=by
  rcases h.b2 with⟨t,sz,g⟩|⟨z,g⟩<;>simp only[cH,g]
 have hlen:=lI st (rA l) c1;rw[c2,fW]at hlen;obtain⟨t1,t2⟩:=pq st j (rA l) c1;unfold gG;rw[hv];have t2:isCr st ((rA l).take (j*6))=true:=t2;simp only[List.drop_zero,t1,t2,c2,Nat.ble_eq_true_of_le (show 0+j*6≤(rA l).length by omega),List.length_take,fW,Nat.min_eq_left hj,Nat.beq_refl,Bool.and_self]
theorem jk{st:St}{l:List (List UInt8)}(h:RtAt st l)(h0:rdN l≠0){j:Nat}(hj:j≤rdN l):rOK (.slice 1 0 j false 0 0) st=true∧bX (.slice 1 0 j false 0 0) st=cw ((cv l).take j):=by
 unfold rOK bX;rw[rt_view h h0 hj];have:=(ci l).1;exact⟨by show(true&&_)=true;rw[Bool.true_and];exact Nat.ble_eq_true_of_le (by rw[List.length_take,fW];omega),rfl⟩
theorem cY{st:St}{s:List UInt8}{z:Bool}{k:Nat}(h:st[k]?=some (.ro z (strs (dL s)))):dOK (.agg [.str (dK s),.str (dG s),.nos k (dN s),.int .i64 (dF s),.int .i64 (dU s),.bool (dCa s)]) st=true:=by
 unfold dOK;simp only[vs_at h]
def rmS(u s m:Int)(d:List UInt8)(l:List (List UInt8)):St:=[.row [.int .u8 u,.int .u8 s,.int .u8 m,.str d] 24 4,.row (rA l) 57 6,.ro true (rB l),.ro true (rNm l 1),.ro true (rNm l 2),.ro true (rNm l 3)]
def rcnd(u s m:Int)(d:List UInt8)(now:Int)(l:List (List UInt8))(i:Nat):Bool:=!ei now ((cv l).take (i+1))&&(ofB u s m d (rdG l i)&&cw ((cv l).take (i+1)))
theorem ke{l:List (List UInt8)}{i:Nat}(h:i<l.length):(strs l).getD i (.bool false)=.str (rdG l i):=by
 rw[List.getD_eq_getElem?_getD];unfold strs rdG;rw[List.getElem?_map,List.getD_eq_getElem?_getD,List.getElem?_eq_getElem h];rfl
theorem lV{l:List (List UInt8)}(hal:l.all au=true){i:Nat}(h:i<l.length):au (rdG l i)=true:=by
 unfold rdG;rw[List.getD_eq_getElem?_getD,List.getElem?_eq_getElem h];exact List.all_eq_true.1 hal _ (List.getElem_mem h)
theorem rA_1{l:List (List UInt8)}(hj:rdN l=1):rA l=[.str (dK (rdG l 0)),.str (dG (rdG l 0)),.nos 2 (dN (rdG l 0)),.int .i64 (dF (rdG l 0)),.int .i64 (dU (rdG l 0)),.bool (dCa (rdG l 0))]:=by unfold rA rdT;rw[hj];rfl
theorem rA_2{l:List (List UInt8)}(hj:rdN l=2):rA l=[.str (dK (rdG l 0)),.str (dG (rdG l 0)),.nos 2 (dN (rdG l 0)),.int .i64 (dF (rdG l 0)),.int .i64 (dU (rdG l 0)),.bool (dCa (rdG l 0)),.str (dK (rdG l 1)),.str (dG (rdG l 1)),.nos 3 (dN (rdG l 1)),.int .i64 (dF (rdG l 1)),.int .i64 (dU (rdG l 1)),.bool (dCa (rdG l 1))]:=by unfold rA rdT;rw[hj];rfl
theorem rA_3{l:List (List UInt8)}(hj:rdN l=3):rA l=[.str (dK (rdG l 0)),.str (dG (rdG l 0)),.nos 2 (dN (rdG l 0)),.int .i64 (dF (rdG l 0)),.int .i64 (dU (rdG l 0)),.bool (dCa (rdG l 0)),.str (dK (rdG l 1)),.str (dG (rdG l 1)),.nos 3 (dN (rdG l 1)),.int .i64 (dF (rdG l 1)),.int .i64 (dU (rdG l 1)),.bool (dCa (rdG l 1)),.str (dK (rdG l 2)),.str (dG (rdG l 2)),.nos 4 (dN (rdG l 2)),.int .i64 (dF (rdG l 2)),.int .i64 (dU (rdG l 2)),.bool (dCa (rdG l 2))]:=by unfold rA rdT;rw[hj];rfl
theorem rA_4{l:List (List UInt8)}(hj:rdN l=4):rA l=[.str (dK (rdG l 0)),.str (dG (rdG l 0)),.nos 2 (dN (rdG l 0)),.int .i64 (dF (rdG l 0)),.int .i64 (dU (rdG l 0)),.bool (dCa (rdG l 0)),.str (dK (rdG l 1)),.str (dG (rdG l 1)),.nos 3 (dN (rdG l 1)),.int .i64 (dF (rdG l 1)),.int .i64 (dU (rdG l 1)),.bool (dCa (rdG l 1)),.str (dK (rdG l 2)),.str (dG (rdG l 2)),.nos 4 (dN (rdG l 2)),.int .i64 (dF (rdG l 2)),.int .i64 (dU (rdG l 2)),.bool (dCa (rdG l 2)),.str (dK (rdG l 3)),.str (dG (rdG l 3)),.nos 5 (dN (rdG l 3)),.int .i64 (dF (rdG l 3)),.int .i64 (dU (rdG l 3)),.bool (dCa (rdG l 3))]:=by unfold rA rdT;rw[hj];rfl
theorem rmt_11{u s m:Int}{d:List UInt8}{x:Value}{now:Int}{l:List (List UInt8)}(hj:rdN l=1){R:Exit→List (Option V)→St→Prop}(h:R (.exit 0) [some (.lst x l.length (strs l)),some (.int .i64 now),some (.ptr 0 0),some (.bool false),some (.slice 1 0 1 false 0 0),some (.int .i64 1)] (rmS u s m d l)):ah Tryz.prog (RX1 rOK dOK bX dDV) 9 10 (ad 9) 10 250 [1,3,4,8,9,10] [.lst x l.length (strs l),.int .i64 now,.ptr 0 0,.bool false,.slice 1 0 1 false 0 0,.int .i64 1] (rmS u s m d l) R:=by
 unfold rmS at h ⊢;rw[rA_1 hj]at h ⊢;exact cast (rmo_11 rOK dOK bX dDV u s m d x l.length (strs l) now (dK (rdG l 0)) (dG (rdG l 0)) (dN (rdG l 0)) (dF (rdG l 0)) (dU (rdG l 0)) (dCa (rdG l 0)) (rB l) (rNm l 1) (rNm l 2) (rNm l 3) R).symm h
theorem rmt_21{u s m:Int}{d:List UInt8}{x:Value}{now:Int}{l:List (List UInt8)}(hj:rdN l=2)(hu:(u8B s&&u8B m)=true)(hal:l.all au=true){R:Exit→List (Option V)→St→Prop}(hN:rcnd u s m d now l 1=false→R .normal [some (.lst x l.length (strs l)),some (.int .i64 now),some (.ptr 0 0),some (.bool false),some (.slice 1 0 2 false 0 0),some (.int .i64 2)] (rmS u s m d l))(hR:rcnd u s m d now l 1=true→R .ret [some (.lst x l.length (strs l)),some (.int .i64 now),some (.ptr 0 0),some (.bool true),some (.slice 1 0 2 false 0 0),some (.int .i64 1)] (rmS u s m d l)):ah Tryz.prog (RX1 rOK dOK bX dDV) 9 10 (ad 9) 10 250 [1,3,4,8,9,10] [.lst x l.length (strs l),.int .i64 now,.ptr 0 0,.bool false,.slice 1 0 2 false 0 0,.int .i64 1] (rmS u s m d l) R:=by
 have h4:=(ci l).2;have late:ei now ((cv l).take 2)=(!aV (dF (rdG l 0)) (dU (rdG l 0)) now||(!aV (dF (rdG l 1)) (dU (rdG l 1)) now||false)):=by rw[cC hj];rfl
 have lk:=jk (st:=[.ro false [.int .u8 u,.int .u8 s,.int .u8 m,.str d],.ro false (rA l),.ro false (rB l),.ro false (rNm l 1),.ro false (rNm l 2),.ro false (rNm l 3)]) (l:=l) ⟨.inr ⟨_,rfl⟩,⟨_,rfl⟩,⟨_,rfl⟩,⟨_,rfl⟩,⟨_,rfl⟩⟩ (by omega) (j:=2) (by omega);unfold rmS at hN hR ⊢;rw[rA_2 hj]at hN hR lk ⊢;refine cast (rmo_21 rOK dOK bX dDV u s m d x l.length (strs l) now (dK (rdG l 0)) (dG (rdG l 0)) (dN (rdG l 0)) (dF (rdG l 0)) (dU (rdG l 0)) (dCa (rdG l 0)) (dK (rdG l 1)) (dG (rdG l 1)) (dN (rdG l 1)) (dF (rdG l 1)) (dU (rdG l 1)) (dCa (rdG l 1)) (rB l) (rNm l 1) (rNm l 2) (rNm l 3) R).symm ?_;unfold zT_1 zT_0;have gt:=ke (l:=l) (i:=1) (by omega);rw[gt];simp only[al,ac,lV hal (i:=1) (by omega),hu,Bool.true_and,cond_true];refine aa (decide_eq_true (by omega)) (aa (Nat.ble_eq_true_of_le (by rw[aF];omega)) ?_);cases hO:ofB u s m d (rdG l 1)with
 |false=>exact hN (by unfold rcnd;rw[hO,Bool.false_and,Bool.and_false])
 |true=>
 refine aa lk.1 ?_;rw[lk.2];cases hK:cw ((cv l).take 2)with
 |false=>exact hN (by unfold rcnd;rw[hK,Bool.and_false,Bool.and_false])
 |true=>
 refine aa (cY (z:=true) (by rw[←mJ l];rfl)) ?_;show bif aV (dF (rdG l 0)) (dU (rdG l 0)) now then _ else _
 cases hD0:aV (dF (rdG l 0)) (dU (rdG l 0)) now with
 |false=>exact hN (by unfold rcnd;rw[late,hD0];simp)
 |true=>
 refine aa (cY (z:=true) (by rw[←fk (l:=l) (i:=1) (by omega)];rfl)) ?_;show bif aV (dF (rdG l 1)) (dU (rdG l 1)) now then _ else _
 cases hD1:aV (dF (rdG l 1)) (dU (rdG l 1)) now with
 |false=>exact hN (by unfold rcnd;rw[late,hD0,hD1];simp)
 |true=>
 exact hR (by unfold rcnd;rw[late,hO,hK,hD0,hD1];rfl)
theorem rmt_22{u s m:Int}{d:List UInt8}{x:Value}{now:Int}{l:List (List UInt8)}(hj:rdN l=2){R:Exit→List (Option V)→St→Prop}(h:R (.exit 0) [some (.lst x l.length (strs l)),some (.int .i64 now),some (.ptr 0 0),some (.bool false),some (.slice 1 0 2 false 0 0),some (.int .i64 2)] (rmS u s m d l)):ah Tryz.prog (RX1 rOK dOK bX dDV) 9 10 (ad 9) 10 250 [1,3,4,8,9,10] [.lst x l.length (strs l),.int .i64 now,.ptr 0 0,.bool false,.slice 1 0 2 false 0 0,.int .i64 2] (rmS u s m d l) R:=by
 unfold rmS at h ⊢;rw[rA_2 hj]at h ⊢;exact cast (rmo_22 rOK dOK bX dDV u s m d x l.length (strs l) now (dK (rdG l 0)) (dG (rdG l 0)) (dN (rdG l 0)) (dF (rdG l 0)) (dU (rdG l 0)) (dCa (rdG l 0)) (dK (rdG l 1)) (dG (rdG l 1)) (dN (rdG l 1)) (dF (rdG l 1)) (dU (rdG l 1)) (dCa (rdG l 1)) (rB l) (rNm l 1) (rNm l 2) (rNm l 3) R).symm h
theorem rmt_31{u s m:Int}{d:List UInt8}{x:Value}{now:Int}{l:List (List UInt8)}(hj:rdN l=3)(hu:(u8B s&&u8B m)=true)(hal:l.all au=true){R:Exit→List (Option V)→St→Prop}(hN:rcnd u s m d now l 1=false→R .normal [some (.lst x l.length (strs l)),some (.int .i64 now),some (.ptr 0 0),some (.bool false),some (.slice 1 0 3 false 0 0),some (.int .i64 2)] (rmS u s m d l))(hR:rcnd u s m d now l 1=true→R .ret [some (.lst x l.length (strs l)),some (.int .i64 now),some (.ptr 0 0),some (.bool true),some (.slice 1 0 3 false 0 0),some (.int .i64 1)] (rmS u s m d l)):ah Tryz.prog (RX1 rOK dOK bX dDV) 9 10 (ad 9) 10 250 [1,3,4,8,9,10] [.lst x l.length (strs l),.int .i64 now,.ptr 0 0,.bool false,.slice 1 0 3 false 0 0,.int .i64 1] (rmS u s m d l) R:=by
 have h4:=(ci l).2;have late:ei now ((cv l).take 2)=(!aV (dF (rdG l 0)) (dU (rdG l 0)) now||(!aV (dF (rdG l 1)) (dU (rdG l 1)) now||false)):=by rw[cC hj];rfl
 have lk:=jk (st:=[.ro false [.int .u8 u,.int .u8 s,.int .u8 m,.str d],.ro false (rA l),.ro false (rB l),.ro false (rNm l 1),.ro false (rNm l 2),.ro false (rNm l 3)]) (l:=l) ⟨.inr ⟨_,rfl⟩,⟨_,rfl⟩,⟨_,rfl⟩,⟨_,rfl⟩,⟨_,rfl⟩⟩ (by omega) (j:=2) (by omega);unfold rmS at hN hR ⊢;rw[rA_3 hj]at hN hR lk ⊢;refine cast (rmo_31 rOK dOK bX dDV u s m d x l.length (strs l) now (dK (rdG l 0)) (dG (rdG l 0)) (dN (rdG l 0)) (dF (rdG l 0)) (dU (rdG l 0)) (dCa (rdG l 0)) (dK (rdG l 1)) (dG (rdG l 1)) (dN (rdG l 1)) (dF (rdG l 1)) (dU (rdG l 1)) (dCa (rdG l 1)) (dK (rdG l 2)) (dG (rdG l 2)) (dN (rdG l 2)) (dF (rdG l 2)) (dU (rdG l 2)) (dCa (rdG l 2)) (rB l) (rNm l 1) (rNm l 2) (rNm l 3) R).symm ?_;unfold zT_3 zT_2;have gt:=ke (l:=l) (i:=1) (by omega);rw[gt];simp only[al,ac,lV hal (i:=1) (by omega),hu,Bool.true_and,cond_true];refine aa (decide_eq_true (by omega)) (aa (Nat.ble_eq_true_of_le (by rw[aF];omega)) ?_);cases hO:ofB u s m d (rdG l 1)with
 |false=>exact hN (by unfold rcnd;rw[hO,Bool.false_and,Bool.and_false])
 |true=>
 refine aa lk.1 ?_;rw[lk.2];cases hK:cw ((cv l).take 2)with
 |false=>exact hN (by unfold rcnd;rw[hK,Bool.and_false,Bool.and_false])
 |true=>
 refine aa (cY (z:=true) (by rw[←mJ l];rfl)) ?_;show bif aV (dF (rdG l 0)) (dU (rdG l 0)) now then _ else _
 cases hD0:aV (dF (rdG l 0)) (dU (rdG l 0)) now with
 |false=>exact hN (by unfold rcnd;rw[late,hD0];simp)
 |true=>
 refine aa (cY (z:=true) (by rw[←fk (l:=l) (i:=1) (by omega)];rfl)) ?_;show bif aV (dF (rdG l 1)) (dU (rdG l 1)) now then _ else _
 cases hD1:aV (dF (rdG l 1)) (dU (rdG l 1)) now with
 |false=>exact hN (by unfold rcnd;rw[late,hD0,hD1];simp)
 |true=>
 exact hR (by unfold rcnd;rw[late,hO,hK,hD0,hD1];rfl)
theorem rmt_32{u s m:Int}{d:List UInt8}{x:Value}{now:Int}{l:List (List UInt8)}(hj:rdN l=3)(hu:(u8B s&&u8B m)=true)(hal:l.all au=true){R:Exit→List (Option V)→St→Prop}(hN:rcnd u s m d now l 2=false→R .normal [some (.lst x l.length (strs l)),some (.int .i64 now),some (.ptr 0 0),some (.bool false),some (.slice 1 0 3 false 0 0),some (.int .i64 3)] (rmS u s m d l))(hR:rcnd u s m d now l 2=true→R .ret [some (.lst x l.length (strs l)),some (.int .i64 now),some (.ptr 0 0),some (.bool true),some (.slice 1 0 3 false 0 0),some (.int .i64 2)] (rmS u s m d l)):ah Tryz.prog (RX1 rOK dOK bX dDV) 9 10 (ad 9) 10 250 [1,3,4,8,9,10] [.lst x l.length (strs l),.int .i64 now,.ptr 0 0,.bool false,.slice 1 0 3 false 0 0,.int .i64 2] (rmS u s m d l) R:=by
 have h4:=(ci l).2;have late:ei now ((cv l).take 3)=(!aV (dF (rdG l 0)) (dU (rdG l 0)) now||(!aV (dF (rdG l 1)) (dU (rdG l 1)) now||(!aV (dF (rdG l 2)) (dU (rdG l 2)) now||false))):=by rw[cC hj];rfl
 have lk:=jk (st:=[.ro false [.int .u8 u,.int .u8 s,.int .u8 m,.str d],.ro false (rA l),.ro false (rB l),.ro false (rNm l 1),.ro false (rNm l 2),.ro false (rNm l 3)]) (l:=l) ⟨.inr ⟨_,rfl⟩,⟨_,rfl⟩,⟨_,rfl⟩,⟨_,rfl⟩,⟨_,rfl⟩⟩ (by omega) (j:=3) (by omega);unfold rmS at hN hR ⊢;rw[rA_3 hj]at hN hR lk ⊢;refine cast (rmo_32 rOK dOK bX dDV u s m d x l.length (strs l) now (dK (rdG l 0)) (dG (rdG l 0)) (dN (rdG l 0)) (dF (rdG l 0)) (dU (rdG l 0)) (dCa (rdG l 0)) (dK (rdG l 1)) (dG (rdG l 1)) (dN (rdG l 1)) (dF (rdG l 1)) (dU (rdG l 1)) (dCa (rdG l 1)) (dK (rdG l 2)) (dG (rdG l 2)) (dN (rdG l 2)) (dF (rdG l 2)) (dU (rdG l 2)) (dCa (rdG l 2)) (rB l) (rNm l 1) (rNm l 2) (rNm l 3) R).symm ?_;unfold zT_5 zT_4;have gt:=ke (l:=l) (i:=2) (by omega);rw[gt];simp only[al,ac,lV hal (i:=2) (by omega),hu,Bool.true_and,cond_true];refine aa (decide_eq_true (by omega)) (aa (Nat.ble_eq_true_of_le (by rw[aF];omega)) ?_);cases hO:ofB u s m d (rdG l 2)with
 |false=>exact hN (by unfold rcnd;rw[hO,Bool.false_and,Bool.and_false])
 |true=>
 refine aa lk.1 ?_;rw[lk.2];cases hK:cw ((cv l).take 3)with
 |false=>exact hN (by unfold rcnd;rw[hK,Bool.and_false,Bool.and_false])
 |true=>
 refine aa (cY (z:=true) (by rw[←mJ l];rfl)) ?_;show bif aV (dF (rdG l 0)) (dU (rdG l 0)) now then _ else _
 cases hD0:aV (dF (rdG l 0)) (dU (rdG l 0)) now with
 |false=>exact hN (by unfold rcnd;rw[late,hD0];simp)
 |true=>
 refine aa (cY (z:=true) (by rw[←fk (l:=l) (i:=1) (by omega)];rfl)) ?_;show bif aV (dF (rdG l 1)) (dU (rdG l 1)) now then _ else _
 cases hD1:aV (dF (rdG l 1)) (dU (rdG l 1)) now with
 |false=>exact hN (by unfold rcnd;rw[late,hD0,hD1];simp)
 |true=>
 refine aa (cY (z:=true) (by rw[←fk (l:=l) (i:=2) (by omega)];rfl)) ?_;show bif aV (dF (rdG l 2)) (dU (rdG l 2)) now then _ else _
 cases hD2:aV (dF (rdG l 2)) (dU (rdG l 2)) now with
 |false=>exact hN (by unfold rcnd;rw[late,hD0,hD1,hD2];simp)
 |true=>
 exact hR (by unfold rcnd;rw[late,hO,hK,hD0,hD1,hD2];rfl)
theorem rmt_33{u s m:Int}{d:List UInt8}{x:Value}{now:Int}{l:List (List UInt8)}(hj:rdN l=3){R:Exit→List (Option V)→St→Prop}(h:R (.exit 0) [some (.lst x l.length (strs l)),some (.int .i64 now),some (.ptr 0 0),some (.bool false),some (.slice 1 0 3 false 0 0),some (.int .i64 3)] (rmS u s m d l)):ah Tryz.prog (RX1 rOK dOK bX dDV) 9 10 (ad 9) 10 250 [1,3,4,8,9,10] [.lst x l.length (strs l),.int .i64 now,.ptr 0 0,.bool false,.slice 1 0 3 false 0 0,.int .i64 3] (rmS u s m d l) R:=by
 unfold rmS at h ⊢;rw[rA_3 hj]at h ⊢;exact cast (rmo_33 rOK dOK bX dDV u s m d x l.length (strs l) now (dK (rdG l 0)) (dG (rdG l 0)) (dN (rdG l 0)) (dF (rdG l 0)) (dU (rdG l 0)) (dCa (rdG l 0)) (dK (rdG l 1)) (dG (rdG l 1)) (dN (rdG l 1)) (dF (rdG l 1)) (dU (rdG l 1)) (dCa (rdG l 1)) (dK (rdG l 2)) (dG (rdG l 2)) (dN (rdG l 2)) (dF (rdG l 2)) (dU (rdG l 2)) (dCa (rdG l 2)) (rB l) (rNm l 1) (rNm l 2) (rNm l 3) R).symm h
theorem rmt_41{u s m:Int}{d:List UInt8}{x:Value}{now:Int}{l:List (List UInt8)}(hj:rdN l=4)(hu:(u8B s&&u8B m)=true)(hal:l.all au=true){R:Exit→List (Option V)→St→Prop}(hN:rcnd u s m d now l 1=false→R .normal [some (.lst x l.length (strs l)),some (.int .i64 now),some (.ptr 0 0),some (.bool false),some (.slice 1 0 4 false 0 0),some (.int .i64 2)] (rmS u s m d l))(hR:rcnd u s m d now l 1=true→R .ret [some (.lst x l.length (strs l)),some (.int .i64 now),some (.ptr 0 0),some (.bool true),some (.slice 1 0 4 false 0 0),some (.int .i64 1)] (rmS u s m d l)):ah Tryz.prog (RX1 rOK dOK bX dDV) 9 10 (ad 9) 10 250 [1,3,4,8,9,10] [.lst x l.length (strs l),.int .i64 now,.ptr 0 0,.bool false,.slice 1 0 4 false 0 0,.int .i64 1] (rmS u s m d l) R:=by
 have h4:=(ci l).2;have late:ei now ((cv l).take 2)=(!aV (dF (rdG l 0)) (dU (rdG l 0)) now||(!aV (dF (rdG l 1)) (dU (rdG l 1)) now||false)):=by rw[cC hj];rfl
 have lk:=jk (st:=[.ro false [.int .u8 u,.int .u8 s,.int .u8 m,.str d],.ro false (rA l),.ro false (rB l),.ro false (rNm l 1),.ro false (rNm l 2),.ro false (rNm l 3)]) (l:=l) ⟨.inr ⟨_,rfl⟩,⟨_,rfl⟩,⟨_,rfl⟩,⟨_,rfl⟩,⟨_,rfl⟩⟩ (by omega) (j:=2) (by omega);unfold rmS at hN hR ⊢;rw[rA_4 hj]at hN hR lk ⊢;refine cast (rmo_41 rOK dOK bX dDV u s m d x l.length (strs l) now (dK (rdG l 0)) (dG (rdG l 0)) (dN (rdG l 0)) (dF (rdG l 0)) (dU (rdG l 0)) (dCa (rdG l 0)) (dK (rdG l 1)) (dG (rdG l 1)) (dN (rdG l 1)) (dF (rdG l 1)) (dU (rdG l 1)) (dCa (rdG l 1)) (dK (rdG l 2)) (dG (rdG l 2)) (dN (rdG l 2)) (dF (rdG l 2)) (dU (rdG l 2)) (dCa (rdG l 2)) (dK (rdG l 3)) (dG (rdG l 3)) (dN (rdG l 3)) (dF (rdG l 3)) (dU (rdG l 3)) (dCa (rdG l 3)) (rB l) (rNm l 1) (rNm l 2) (rNm l 3) R).symm ?_;unfold zT_7 zT_6 zT_8;have gt:=ke (l:=l) (i:=1) (by omega);rw[gt];simp only[al,ac,lV hal (i:=1) (by omega),hu,Bool.true_and,cond_true];refine aa (decide_eq_true (by omega)) (aa (Nat.ble_eq_true_of_le (by rw[aF];omega)) ?_);cases hO:ofB u s m d (rdG l 1)with
 |false=>exact hN (by unfold rcnd;rw[hO,Bool.false_and,Bool.and_false])
 |true=>
 refine aa lk.1 ?_;rw[lk.2];cases hK:cw ((cv l).take 2)with
 |false=>exact hN (by unfold rcnd;rw[hK,Bool.and_false,Bool.and_false])
 |true=>
 refine aa (cY (z:=true) (by rw[←mJ l];rfl)) ?_;show bif aV (dF (rdG l 0)) (dU (rdG l 0)) now then _ else _
 cases hD0:aV (dF (rdG l 0)) (dU (rdG l 0)) now with
 |false=>exact hN (by unfold rcnd;rw[late,hD0];simp)
 |true=>
 refine aa (cY (z:=true) (by rw[←fk (l:=l) (i:=1) (by omega)];rfl)) ?_;show bif aV (dF (rdG l 1)) (dU (rdG l 1)) now then _ else _
 cases hD1:aV (dF (rdG l 1)) (dU (rdG l 1)) now with
 |false=>exact hN (by unfold rcnd;rw[late,hD0,hD1];simp)
 |true=>
 exact hR (by unfold rcnd;rw[late,hO,hK,hD0,hD1];rfl)
theorem rmt_42{u s m:Int}{d:List UInt8}{x:Value}{now:Int}{l:List (List UInt8)}(hj:rdN l=4)(hu:(u8B s&&u8B m)=true)(hal:l.all au=true){R:Exit→List (Option V)→St→Prop}(hN:rcnd u s m d now l 2=false→R .normal [some (.lst x l.length (strs l)),some (.int .i64 now),some (.ptr 0 0),some (.bool false),some (.slice 1 0 4 false 0 0),some (.int .i64 3)] (rmS u s m d l))(hR:rcnd u s m d now l 2=true→R .ret [some (.lst x l.length (strs l)),some (.int .i64 now),some (.ptr 0 0),some (.bool true),some (.slice 1 0 4 false 0 0),some (.int .i64 2)] (rmS u s m d l)):ah Tryz.prog (RX1 rOK dOK bX dDV) 9 10 (ad 9) 10 250 [1,3,4,8,9,10] [.lst x l.length (strs l),.int .i64 now,.ptr 0 0,.bool false,.slice 1 0 4 false 0 0,.int .i64 2] (rmS u s m d l) R:=by
 have h4:=(ci l).2;have late:ei now ((cv l).take 3)=(!aV (dF (rdG l 0)) (dU (rdG l 0)) now||(!aV (dF (rdG l 1)) (dU (rdG l 1)) now||(!aV (dF (rdG l 2)) (dU (rdG l 2)) now||false))):=by rw[cC hj];rfl
 have lk:=jk (st:=[.ro false [.int .u8 u,.int .u8 s,.int .u8 m,.str d],.ro false (rA l),.ro false (rB l),.ro false (rNm l 1),.ro false (rNm l 2),.ro false (rNm l 3)]) (l:=l) ⟨.inr ⟨_,rfl⟩,⟨_,rfl⟩,⟨_,rfl⟩,⟨_,rfl⟩,⟨_,rfl⟩⟩ (by omega) (j:=3) (by omega);unfold rmS at hN hR ⊢;rw[rA_4 hj]at hN hR lk ⊢;refine cast (rmo_42 rOK dOK bX dDV u s m d x l.length (strs l) now (dK (rdG l 0)) (dG (rdG l 0)) (dN (rdG l 0)) (dF (rdG l 0)) (dU (rdG l 0)) (dCa (rdG l 0)) (dK (rdG l 1)) (dG (rdG l 1)) (dN (rdG l 1)) (dF (rdG l 1)) (dU (rdG l 1)) (dCa (rdG l 1)) (dK (rdG l 2)) (dG (rdG l 2)) (dN (rdG l 2)) (dF (rdG l 2)) (dU (rdG l 2)) (dCa (rdG l 2)) (dK (rdG l 3)) (dG (rdG l 3)) (dN (rdG l 3)) (dF (rdG l 3)) (dU (rdG l 3)) (dCa (rdG l 3)) (rB l) (rNm l 1) (rNm l 2) (rNm l 3) R).symm ?_;unfold pO zT_9 zT_11;have gt:=ke (l:=l) (i:=2) (by omega);rw[gt];simp only[al,ac,lV hal (i:=2) (by omega),hu,Bool.true_and,cond_true];refine aa (decide_eq_true (by omega)) (aa (Nat.ble_eq_true_of_le (by rw[aF];omega)) ?_);cases hO:ofB u s m d (rdG l 2)with
 |false=>exact hN (by unfold rcnd;rw[hO,Bool.false_and,Bool.and_false])
 |true=>
 refine aa lk.1 ?_;rw[lk.2];cases hK:cw ((cv l).take 3)with
 |false=>exact hN (by unfold rcnd;rw[hK,Bool.and_false,Bool.and_false])
 |true=>
 refine aa (cY (z:=true) (by rw[←mJ l];rfl)) ?_;show bif aV (dF (rdG l 0)) (dU (rdG l 0)) now then _ else _
 cases hD0:aV (dF (rdG l 0)) (dU (rdG l 0)) now with
 |false=>exact hN (by unfold rcnd;rw[late,hD0];simp)
 |true=>
 refine aa (cY (z:=true) (by rw[←fk (l:=l) (i:=1) (by omega)];rfl)) ?_;show bif aV (dF (rdG l 1)) (dU (rdG l 1)) now then _ else _
 cases hD1:aV (dF (rdG l 1)) (dU (rdG l 1)) now with
 |false=>exact hN (by unfold rcnd;rw[late,hD0,hD1];simp)
 |true=>
 refine aa (cY (z:=true) (by rw[←fk (l:=l) (i:=2) (by omega)];rfl)) ?_;show bif aV (dF (rdG l 2)) (dU (rdG l 2)) now then _ else _
 cases hD2:aV (dF (rdG l 2)) (dU (rdG l 2)) now with
 |false=>exact hN (by unfold rcnd;rw[late,hD0,hD1,hD2];simp)
 |true=>
 exact hR (by unfold rcnd;rw[late,hO,hK,hD0,hD1,hD2];rfl)
theorem rmt_43{u s m:Int}{d:List UInt8}{x:Value}{now:Int}{l:List (List UInt8)}(hj:rdN l=4)(hu:(u8B s&&u8B m)=true)(hal:l.all au=true){R:Exit→List (Option V)→St→Prop}(hN:rcnd u s m d now l 3=false→R .normal [some (.lst x l.length (strs l)),some (.int .i64 now),some (.ptr 0 0),some (.bool false),some (.slice 1 0 4 false 0 0),some (.int .i64 4)] (rmS u s m d l))(hR:rcnd u s m d now l 3=true→R .ret [some (.lst x l.length (strs l)),some (.int .i64 now),some (.ptr 0 0),some (.bool true),some (.slice 1 0 4 false 0 0),some (.int .i64 3)] (rmS u s m d l)):ah Tryz.prog (RX1 rOK dOK bX dDV) 9 10 (ad 9) 10 250 [1,3,4,8,9,10] [.lst x l.length (strs l),.int .i64 now,.ptr 0 0,.bool false,.slice 1 0 4 false 0 0,.int .i64 3] (rmS u s m d l) R:=by
 have h4:=(ci l).2;have late:ei now ((cv l).take 4)=(!aV (dF (rdG l 0)) (dU (rdG l 0)) now||(!aV (dF (rdG l 1)) (dU (rdG l 1)) now||(!aV (dF (rdG l 2)) (dU (rdG l 2)) now||(!aV (dF (rdG l 3)) (dU (rdG l 3)) now||false)))):=by rw[cC hj];rfl
 have lk:=jk (st:=[.ro false [.int .u8 u,.int .u8 s,.int .u8 m,.str d],.ro false (rA l),.ro false (rB l),.ro false (rNm l 1),.ro false (rNm l 2),.ro false (rNm l 3)]) (l:=l) ⟨.inr ⟨_,rfl⟩,⟨_,rfl⟩,⟨_,rfl⟩,⟨_,rfl⟩,⟨_,rfl⟩⟩ (by omega) (j:=4) (by omega);unfold rmS at hN hR ⊢;rw[rA_4 hj]at hN hR lk ⊢;refine cast (rmo_43 rOK dOK bX dDV u s m d x l.length (strs l) now (dK (rdG l 0)) (dG (rdG l 0)) (dN (rdG l 0)) (dF (rdG l 0)) (dU (rdG l 0)) (dCa (rdG l 0)) (dK (rdG l 1)) (dG (rdG l 1)) (dN (rdG l 1)) (dF (rdG l 1)) (dU (rdG l 1)) (dCa (rdG l 1)) (dK (rdG l 2)) (dG (rdG l 2)) (dN (rdG l 2)) (dF (rdG l 2)) (dU (rdG l 2)) (dCa (rdG l 2)) (dK (rdG l 3)) (dG (rdG l 3)) (dN (rdG l 3)) (dF (rdG l 3)) (dU (rdG l 3)) (dCa (rdG l 3)) (rB l) (rNm l 1) (rNm l 2) (rNm l 3) R).symm ?_;unfold nH fK zT_14;have gt:=ke (l:=l) (i:=3) (by omega);rw[gt];simp only[al,ac,lV hal (i:=3) (by omega),hu,Bool.true_and,cond_true];refine aa (decide_eq_true (by omega)) (aa (Nat.ble_eq_true_of_le (by rw[aF];omega)) ?_);cases hO:ofB u s m d (rdG l 3)with
 |false=>exact hN (by unfold rcnd;rw[hO,Bool.false_and,Bool.and_false])
 |true=>
 refine aa lk.1 ?_;rw[lk.2];cases hK:cw ((cv l).take 4)with
 |false=>exact hN (by unfold rcnd;rw[hK,Bool.and_false,Bool.and_false])
 |true=>
 refine aa (cY (z:=true) (by rw[←mJ l];rfl)) ?_;show bif aV (dF (rdG l 0)) (dU (rdG l 0)) now then _ else _
 cases hD0:aV (dF (rdG l 0)) (dU (rdG l 0)) now with
 |false=>exact hN (by unfold rcnd;rw[late,hD0];simp)
 |true=>
 refine aa (cY (z:=true) (by rw[←fk (l:=l) (i:=1) (by omega)];rfl)) ?_;show bif aV (dF (rdG l 1)) (dU (rdG l 1)) now then _ else _
 cases hD1:aV (dF (rdG l 1)) (dU (rdG l 1)) now with
 |false=>exact hN (by unfold rcnd;rw[late,hD0,hD1];simp)
 |true=>
 refine aa (cY (z:=true) (by rw[←fk (l:=l) (i:=2) (by omega)];rfl)) ?_;show bif aV (dF (rdG l 2)) (dU (rdG l 2)) now then _ else _
 cases hD2:aV (dF (rdG l 2)) (dU (rdG l 2)) now with
 |false=>exact hN (by unfold rcnd;rw[late,hD0,hD1,hD2];simp)
 |true=>
 refine aa (cY (z:=true) (by rw[←fk (l:=l) (i:=3) (by omega)];rfl)) ?_;show bif aV (dF (rdG l 3)) (dU (rdG l 3)) now then _ else _
 cases hD3:aV (dF (rdG l 3)) (dU (rdG l 3)) now with
 |false=>exact hN (by unfold rcnd;rw[late,hD0,hD1,hD2,hD3];simp)
 |true=>
 exact hR (by unfold rcnd;rw[late,hO,hK,hD0,hD1,hD2,hD3];rfl)
theorem rmt_44{u s m:Int}{d:List UInt8}{x:Value}{now:Int}{l:List (List UInt8)}(hj:rdN l=4){R:Exit→List (Option V)→St→Prop}(h:R (.exit 0) [some (.lst x l.length (strs l)),some (.int .i64 now),some (.ptr 0 0),some (.bool false),some (.slice 1 0 4 false 0 0),some (.int .i64 4)] (rmS u s m d l)):ah Tryz.prog (RX1 rOK dOK bX dDV) 9 10 (ad 9) 10 250 [1,3,4,8,9,10] [.lst x l.length (strs l),.int .i64 now,.ptr 0 0,.bool false,.slice 1 0 4 false 0 0,.int .i64 4] (rmS u s m d l) R:=by
 unfold rmS at h ⊢;rw[rA_4 hj]at h ⊢;exact cast (rmo_44 rOK dOK bX dDV u s m d x l.length (strs l) now (dK (rdG l 0)) (dG (rdG l 0)) (dN (rdG l 0)) (dF (rdG l 0)) (dU (rdG l 0)) (dCa (rdG l 0)) (dK (rdG l 1)) (dG (rdG l 1)) (dN (rdG l 1)) (dF (rdG l 1)) (dU (rdG l 1)) (dCa (rdG l 1)) (dK (rdG l 2)) (dG (rdG l 2)) (dN (rdG l 2)) (dF (rdG l 2)) (dU (rdG l 2)) (dCa (rdG l 2)) (dK (rdG l 3)) (dG (rdG l 3)) (dN (rdG l 3)) (dF (rdG l 3)) (dU (rdG l 3)) (dCa (rdG l 3)) (rB l) (rNm l 1) (rNm l 2) (rNm l 3) R).symm h
structure MQX where
 u:Int
 s:Int
 m:Int
 d:List UInt8
 x:Value
 n:Nat
 cs:List V
 now:Int
 i:Nat
def mqV(z:MQX):List V:=[.lst z.x z.n z.cs,.int .i64 z.now,.ptr 0 0,.bool false,.slice 1 0 (rdN (z.cs.map ac)) false 0 0,.int .i64 z.i]
def mqJ(z:MQX):St:=rmS z.u z.s z.m z.d (z.cs.map ac)
def gi(z:MQX):Bool:=okLL z.n z.cs&&((u8B z.s&&u8B z.m)&&(Nat.ble 1 z.i&&Nat.ble z.i (rdN (z.cs.map ac))))
def mqMu(z:MQX):Nat:=rdN (z.cs.map ac)-z.i
def mqDec:List (Option V)→St→Option MQX
 |[some (.lst x n cs),some (.int .i64 now),some (.ptr 0 0),some (.bool false),some (.slice 1 0 _ false 0 0),some (.int .i64 1)],.row [.int .u8 u,.int .u8 s,.int .u8 m,.str d] _ _::_=>some ⟨u,s,m,d,x,n,cs,now,1⟩
 |_,_=>none
def sg(z:MQX)(b:Bool)(K:Exit→List V→St→Prop):Prop:=
 bif b then ∀j:Int,K .ret [.lst z.x z.n z.cs,.int .i64 z.now,.ptr 0 0,.bool true,.slice 1 0 (rdN (z.cs.map ac)) false 0 0,.int .i64 j] (mqJ z)else ∀j:Int,K (.exit 0) [.lst z.x z.n z.cs,.int .i64 z.now,.ptr 0 0,.bool false,.slice 1 0 (rdN (z.cs.map ac)) false 0 0,.int .i64 j] (mqJ z)
def qq:Asks MQX:=fun z K=>sg z (matV z.u z.s z.m z.d z.now z.cs z.i) K
theorem ren_rA(l:List (List UInt8)):renL [0,1,2,3,4,5] (rA l)=some (rA l):=by
 unfold rA rdT;have h4:=(ci l).1;rcases(by omega:rdN l=0∨rdN l=1∨rdN l=2∨rdN l=3∨rdN l=4)with hj|hj|hj|hj|hj<;>rw[hj]<;>rfl
theorem ren_rN(l:List (List UInt8))(i:Nat):renL [0,1,2,3,4,5] (rNm l i)=some (rNm l i):=by
 unfold rNm nmR;cases Nat.blt i (rdN l)with
 |true=>rw[cond_true,fh];exact ar _ (aX _)
 |false=>rfl
theorem mq_fits(x:Value)(n:Nat)(cs:List V)(u s m:Int)(d:List UInt8)(l:List (List UInt8))(now:Int)(b:Bool)(N:Nat)(j:Int):Fits 0 [.lst x n cs,.int .i64 now,.ptr 0 0,.bool b,.slice 1 0 N false 0 0,.int .i64 j] (rmS u s m d l) [some (.lst x n cs),some (.int .i64 now),some (.ptr 0 0),some (.bool b),some (.slice 1 0 N false 0 0),some (.int .i64 j)] (rmS u s m d l):=by
 refine⟨[0,1,2,3,4,5],[.lst x n cs,.int .i64 now,.ptr 0 0,.bool b,.slice 1 0 N false 0 0,.int .i64 j],rfl,rfl,FitsM.of ⟨.inr ⟨_,.inl rfl,rfl⟩,.inr ⟨.row (rA l) 57 6,.inl ?_,rfl⟩,.inr ⟨.ro true (rB l),.inl ?_,rfl⟩,.inr ⟨.ro true (rNm l 1),.inl ?_,rfl⟩,.inr ⟨.ro true (rNm l 2),.inl ?_,rfl⟩,.inr ⟨.ro true (rNm l 3),.inl ?_,rfl⟩,trivial⟩,by decide,fun i hi=>by omega⟩
 ·simp only[renB,ren_rA]
 ·rw[mJ];simp only[renB,ar _ (aX _)]
 ·simp only[renB,ren_rN]
 ·simp only[renB,ren_rN]
 ·simp only[renB,ren_rN]
theorem mq_roundOk(z:MQX)(hx:gi z=true):ah Tryz.prog (RX1 rOK dOK bX dDV) 9 10 (ad 9) 10 250 [1,3,4,8,9,10] (mqV z) (mqJ z) (ay 0 gi mqV mqJ mqMu qq z):=by
 obtain⟨u,s,m,d,x,n,cs,now,i⟩:=z;unfold gi at hx;simp only[Bool.and_eq_true]at hx;have hx0:okLL n cs=true:=hx.1;have hu:(u8B s&&u8B m)=true:=by rw[Bool.and_eq_true];exact hx.2.1
 have p1:1≤i:=Nat.le_of_ble_eq_true hx.2.2.1;have p2:i≤rdN (cs.map ac):=Nat.le_of_ble_eq_true hx.2.2.2;have hx1:=hx0;unfold okLL at hx1;rw[Bool.and_eq_true]at hx1;obtain⟨l,rfl,rfl,p3,p4⟩:=c9 hx1.1;have hal:l.all au=true:=by have:=hx1.2;unfold iG at this;rw[ao]at this;exact this
 rw[ao]at p2;have p5:=(ci l).1;have out:∀K,qq ⟨u,s,m,d,x,l.length,strs l,now,i⟩ K→sg ⟨u,s,m,d,x,l.length,strs l,now,i⟩ (matF u s m d now l (rdN l-i) i) K:=fun K hK=>by
  have hK:sg ⟨u,s,m,d,x,l.length,strs l,now,i⟩ (matF u s m d now ((strs l).map ac) (rdN ((strs l).map ac)-i) i) K:=hK;rw[ao]at hK;exact hK
 have fits:∀b j,Fits 0 [.lst x l.length (strs l),.int .i64 now,.ptr 0 0,.bool b,.slice 1 0 (rdN ((strs l).map ac)) false 0 0,.int .i64 j] (rmS u s m d ((strs l).map ac)) [some (.lst x l.length (strs l)),some (.int .i64 now),some (.ptr 0 0),some (.bool b),some (.slice 1 0 (rdN l) false 0 0),some (.int .i64 j)] (rmS u s m d l):=fun b j=>by
  rw[ao];exact mq_fits x l.length (strs l) u s m d l now b (rdN l) j
 have ex:rdN l=i→ay 0 gi mqV mqJ mqMu qq ⟨u,s,m,d,x,l.length,strs l,now,i⟩ (.exit 0) [some (.lst x l.length (strs l)),some (.int .i64 now),some (.ptr 0 0),some (.bool false),some (.slice 1 0 (rdN l) false 0 0),some (.int .i64 i)] (rmS u s m d l):=fun hi=>by
  refine⟨_,_,fun K hK=>?_,fits false i⟩;have hK:=out K hK;rw[show rdN l-i=0 by omega]at hK;exact hK i
 have step:i<rdN l→matF u s m d now l (rdN l-i) i=(bif rcnd u s m d now l i then true else matF u s m d now l (rdN l-(i+1)) (i+1)):=fun hi=>by
  have:=(ci l).2;rw[show rdN l-i=(rdN l-(i+1))+1 by omega,matF,ke (by omega)];rfl
 have next:i<rdN l→rcnd u s m d now l i=false→ay 0 gi mqV mqJ mqMu qq ⟨u,s,m,d,x,l.length,strs l,now,i⟩ .normal [some (.lst x l.length (strs l)),some (.int .i64 now),some (.ptr 0 0),some (.bool false),some (.slice 1 0 (rdN l) false 0 0),some (.int .i64 (i+1:Nat))] (rmS u s m d l):=fun hi e=>by
  refine⟨⟨u,s,m,d,x,l.length,strs l,now,i+1⟩,?_,fits false _,by simp only[mqMu,ao];omega,fun K hK=>?_⟩
  ·unfold gi;rw[ao,hx0,hu,Nat.ble_eq_true_of_le (show 1≤i+1 by omega),Nat.ble_eq_true_of_le (show i+1≤rdN l by omega)];rfl
  ·have hK:=out K hK;rw[step hi,e]at hK;show sg ⟨u,s,m,d,x,l.length,strs l,now,i+1⟩ (matF u s m d now ((strs l).map ac) (rdN ((strs l).map ac)-(i+1)) (i+1)) K;rw[ao];exact hK
 have yes:i<rdN l→rcnd u s m d now l i=true→ay 0 gi mqV mqJ mqMu qq ⟨u,s,m,d,x,l.length,strs l,now,i⟩ .ret [some (.lst x l.length (strs l)),some (.int .i64 now),some (.ptr 0 0),some (.bool true),some (.slice 1 0 (rdN l) false 0 0),some (.int .i64 i)] (rmS u s m d l):=fun hi e=>by
  refine⟨_,_,fun K hk=>?_,fits true i⟩;have hk:=out K hk;rw[step hi,e]at hk;exact hk i
 show ah Tryz.prog (RX1 rOK dOK bX dDV) 9 10 (ad 9) 10 250 [1,3,4,8,9,10] [.lst x l.length (strs l),.int .i64 now,.ptr 0 0,.bool false,.slice 1 0 (rdN ((strs l).map ac)) false 0 0,.int .i64 i] (rmS u s m d ((strs l).map ac)) _;rw[ao];rcases(by omega:rdN l=1∨rdN l=2∨rdN l=3∨rdN l=4)with hj|hj|hj|hj
 ·rw[hj]at ex next yes p2 ⊢
  obtain rfl:i=1:=by omega
  exact rmt_11 hj (ex rfl)
 ·rw[hj]at ex next yes p2 ⊢
  rcases(by omega:i=1∨i=2)with rfl|rfl
  ·exact rmt_21 hj hu hal (next (by omega)) (yes (by omega))
  ·exact rmt_22 hj (ex rfl)
 ·rw[hj]at ex next yes p2 ⊢
  rcases(by omega:i=1∨i=2∨i=3)with rfl|rfl|rfl
  ·exact rmt_31 hj hu hal (next (by omega)) (yes (by omega))
  ·exact rmt_32 hj hu hal (next (by omega)) (yes (by omega))
  ·exact rmt_33 hj (ex rfl)
 ·rw[hj]at ex next yes p2 ⊢
  rcases(by omega:i=1∨i=2∨i=3∨i=4)with rfl|rfl|rfl|rfl
  ·exact rmt_41 hj hu hal (next (by omega)) (yes (by omega))
  ·exact rmt_42 hj hu hal (next (by omega)) (yes (by omega))
  ·exact rmt_43 hj hu hal (next (by omega)) (yes (by omega))
  ·exact rmt_44 hj (ex rfl)
noncomputable def lkMQ:Nat→Trans→Trans:=aR 250 (br 0 (szOf Tryz.prog 10) [1,3,4,8,9,10] mqDec gi mqV mqJ qq) (ad 9)
theorem lkMQ_ok:aD Tryz.prog 0 lkMQ 10:=by
 unfold lkMQ;exact bo (aP 9 0 10) (by kernel_rfl) fun f st Q h=>aU (P:=Tryz.prog) (T:=RX1 rOK dOK bX dDV) (k:=0) (lim:=9) (n:=10) (g:=10) (p0:=250) (lk:=ad 9) mixed RX1_ok (aS 9 _ _) mqMu mq_roundOk h
def rqP(l:List (List UInt8))(j:Nat)(T a b c:List V):V×St:=(.slice 0 0 j false 0 0,[.row (rdA (rdG l 0) 1 T) 57 6,.ro true (strs (dL (rdG l 0))),.ro true a,.ro true b,.ro true c])
def jl(l:List (List UInt8)):Nat→V×St
 |0=>(.nilSlice,[])
 |1=>rqP l 1 [] [] [] []
 |2=>rqP l 2 (rdA (rdG l 1) 2 []) (strs (dL (rdG l 1))) [] []
 |3=>rqP l 3 (rdA (rdG l 1) 2 (rdA (rdG l 2) 3 [])) (strs (dL (rdG l 1))) (strs (dL (rdG l 2))) []
 |_=>rqP l 4 (rdA (rdG l 1) 2 (rdA (rdG l 2) 3 (rdA (rdG l 3) 4 []))) (strs (dL (rdG l 1))) (strs (dL (rdG l 2))) (strs (dL (rdG l 3)))
def rreadP:List V→Option (List (Bool×(V×St)))
 |[.lst _ n cs]=>some [(okLL n cs&&Nat.beq (rdN (cs.map ac)) 0,jl (cs.map ac) 0),(okLL n cs&&Nat.beq (rdN (cs.map ac)) 1,jl (cs.map ac) 1),(okLL n cs&&Nat.beq (rdN (cs.map ac)) 2,jl (cs.map ac) 2),(okLL n cs&&Nat.beq (rdN (cs.map ac)) 3,jl (cs.map ac) 3),(okLL n cs&&Nat.beq (rdN (cs.map ac)) 4,jl (cs.map ac) 4)]
 |_=>none
theorem rreadP_ok(args:List V)(L:List (Bool×(V×St)))(o:V×St)(h:rreadP args=some L)(ho:az L=some o):FnSat Tryz.prog 34 args [] (Is o):=by
 unfold rreadP at h;split at h
 ·rename_i x n cs;cases h;cases hk:okLL n cs with
  |false=>rw[hk]at ho;simp[az]at ho
  |true=>
  rw[hk,Bool.true_and]at ho;simp only[Bool.true_and]at ho;have h4:=(ci (cs.map ac)).1;refine rreadU_ok [.lst x n cs] _ o rfl ?_;rw[hk,←ho];unfold rqU rdT nmR;rcases(by omega:rdN (cs.map ac)=0∨rdN (cs.map ac)=1∨rdN (cs.map ac)=2∨rdN (cs.map ac)=3∨rdN (cs.map ac)=4)with hj|hj|hj|hj|hj<;>simp only[jl,rqP,hj]<;>rfl
 ·cases h
noncomputable def MQ1:Tab:=⟨addT (addT noT 34 rreadP) 23 rofT,addS noL 35 rhostG,cn (aL 9) 10 0 lkMQ⟩
theorem MQ1_ok:TabOk3 Tryz.prog MQ1:=⟨aE (aE aA rreadP_ok) rof_ok,cG aB rhostG_ok,bc (ak 9) lkMQ_ok⟩
noncomputable def zW_2(cs:List V):=rdG (List.map ac cs) 0
noncomputable def zW_8(cs:List V):=av 1 (strs (dL (zW_2 cs)))
noncomputable def zW_0(cs:List V):=List.take (dN (zW_2 cs)*1) (zW_8 cs)
noncomputable def zW_7(u s m:Int)(d:List UInt8):=[V.int u8 u,V.int u8 s,V.int u8 m,V.str d]
noncomputable def zW_1(u s m:Int)(d:List UInt8)(cs:List V):=[Blk.row (zW_7 u s m d) 24 4,Blk.row (rA (List.map ac cs)) 57 6,Blk.ro true (rB (List.map ac cs)),Blk.ro true (rNm (List.map ac cs) 1),Blk.ro true (rNm (List.map ac cs) 2),Blk.ro true (rNm (List.map ac cs) 3)]
noncomputable def zW_3(cs:List V):=rdG (List.map ac cs) 1
noncomputable def zW_4(x:Value)(n:Nat)(cs:List V)(now:Int):=[V.lst x n cs,V.int i64 now,V.ptr 0 0,V.bool false,V.slice 1 0 (rdN (List.map ac cs)) false 0 0,V.int i64 1]
noncomputable def zW_5(cs:List V)(h:List UInt8):=(List.map ac (zW_0 cs)).length.ble 9223372036854775807&&((List.map ac (zW_0 cs)).all au&&au h)
noncomputable def zW_6(cs:List V):=rdG (List.map ac cs) 2
noncomputable def zW_9(cs:List V):=(zW_0 cs).all al&&(zW_0 cs).length.beq (dN (zW_2 cs))
theorem rmt_tree(u s m:Int)(d:List UInt8)(x:Value)(n:Nat)(cs:List V)(h:List UInt8)(now:Int)(R:V→Prop):runW Tryz.prog MQ1 9 10 10 [.agg [.int .u8 u,.int .u8 s,.int .u8 m,.str d],.lst x n cs,.str h,.int .i64 now] R=
 (
 bif u==3 then bif decide ((↑n:Int)>0)then bif true&&decide (0<(↑n:Int))then bif Nat.blt 0 cs.length then bif al (cs.getD 0 (.bool false))then
 bif au (ac (cs.getD 0 (.bool false)))&&(u8B s&&u8B m)then R (.bool (ofB u s m (d) (ac (cs.getD 0 (.bool false)))))else False else False else
 False else False else R (.bool false)else bif okLL n cs&&(rdN (List.map ac cs)).beq 0 then bif u !=2 then R (.bool false)else R (.bool false)else
 bif okLL n cs&&(rdN (List.map ac cs)).beq 1 then bif u !=2 then R (.bool false)else bif (dN (zW_2 cs)*1).ble (zW_8 cs).length&&(zW_9 cs)&&(zW_5 cs
 h)then bif !hasH (List.map ac (zW_0 cs)) h then R (.bool false)else Fits 0 (zW_4 x n cs now) (zW_1 u s m d cs) [some (.lst x n cs),some (.int
 i64 now),some (.ptr 0 0),some (.bool false),some (.slice 1 0 1 false 0 0),some (.int i64 1)] [.row (zW_7 u s m d) 24 4,.row [.str
 (dK (zW_2 cs)),.str (dG (zW_2 cs)),.nos 2 (dN (zW_2 cs)),.int i64 (dF (zW_2 cs)),.int i64 (dU (zW_2 cs)),.bool (dCa (zW_2 cs))] 57 6,
 .ro true (zW_8 cs),.ro true [],.ro true [],.ro true []]∧bif gi
 {u:=u,s:=s,m:=m,d:=d,x:=x,n:=n,cs:=cs,now:=now,i:=1}then bif matV u s m d now cs 1 then ∀(j:Int),R (.bool true)else ∀(j:
 Int),R (.bool false)else False else False else bif okLL n cs&&(rdN (List.map ac cs)).beq 2 then bif u !=2 then R (.bool false)else bif (dN (zW_2 cs)
 *1).ble (zW_8 cs).length&&(zW_9 cs)&&(zW_5 cs h)then bif !hasH (List.map ac (zW_0 cs)) h then R (.bool false)else Fits 0 (zW_4 x n cs now) (zW_1 u s
 m d cs) [some (.lst x n cs),some (.int i64 now),some (.ptr 0 0),some (.bool false),some (.slice 1 0 2 false 0 0),some (.int i64 1)]
 [.row (zW_7 u s m d) 24 4,.row [.str (dK (zW_2 cs)),.str (dG (zW_2 cs)),.nos 2 (dN (zW_2 cs)),.int i64 (dF (zW_2 cs)),.int i64
 (dU (zW_2 cs)),.bool (dCa (zW_2 cs)),.str (dK (zW_3 cs)),.str (dG (zW_3 cs)),.nos 3 (dN (zW_3 cs)),.int i64 (dF (zW_3 cs)),.int i64
 (dU (zW_3 cs)),.bool (dCa (zW_3 cs))] 57 6,.ro true (zW_8 cs),.ro true (av 1 (strs (dL (zW_3 cs)))),.ro true [],.ro true []]∧bif gi
 {u:=u,s:=s,m:=m,d:=d,x:=x,n:=n,cs:=cs,now:=now,i:=1}then bif matV u s m d now cs 1 then ∀(j:Int),R (.bool true)else ∀(j:
 Int),R (.bool false)else False else False else bif okLL n cs&&(rdN (List.map ac cs)).beq 3 then bif u !=2 then R (.bool false)else bif (dN (zW_2 cs)
 *1).ble (zW_8 cs).length&&(zW_9 cs)&&(zW_5 cs h)then bif !hasH (List.map ac (zW_0 cs)) h then R (.bool false)else Fits 0 (zW_4 x n cs now) (zW_1 u s
 m d cs) [some (.lst x n cs),some (.int i64 now),some (.ptr 0 0),some (.bool false),some (.slice 1 0 3 false 0 0),some (.int i64 1)]
 [.row (zW_7 u s m d) 24 4,.row [.str (dK (zW_2 cs)),.str (dG (zW_2 cs)),.nos 2 (dN (zW_2 cs)),.int i64 (dF (zW_2 cs)),.int i64
 (dU (zW_2 cs)),.bool (dCa (zW_2 cs)),.str (dK (zW_3 cs)),.str (dG (zW_3 cs)),.nos 3 (dN (zW_3 cs)),.int i64 (dF (zW_3 cs)),.int i64
 (dU (zW_3 cs)),.bool (dCa (zW_3 cs)),.str (dK (zW_6 cs)),.str (dG (zW_6 cs)),.nos 4 (dN (zW_6 cs)),.int i64 (dF (zW_6 cs)),.int i64
 (dU (zW_6 cs)),.bool (dCa (zW_6 cs))] 57 6,.ro true (zW_8 cs),.ro true (av 1 (strs (dL (zW_3 cs)))),.ro true (av 1 (strs (dL (zW_6 cs)))),
 .ro true []]∧bif gi {u:=u,s:=s,m:=m,d:=d,x:=x,n:=n,cs:=cs,now:=now,i:=1}then bif matV u s m d now cs 1 then ∀(j:Int),R
 (.bool true)else ∀(j:Int),R (.bool false)else False else False else bif okLL n cs&&(rdN (List.map ac cs)).beq 4 then bif u !=2 then R (.bool
 false)else bif (dN (zW_2 cs)*1).ble (zW_8 cs).length&&(zW_9 cs)&&(zW_5 cs h)then bif !hasH (List.map ac (zW_0 cs)) h then R (.bool false)else Fits
 0 (zW_4 x n cs now) (zW_1 u s m d cs) [some (.lst x n cs),some (.int i64 now),some (.ptr 0 0),some (.bool false),some (.slice 1 0 4 false 0 0),
 some (.int i64 1)] [.row (zW_7 u s m d) 24 4,.row [.str (dK (zW_2 cs)),.str (dG (zW_2 cs)),.nos 2 (dN (zW_2 cs)),.int i64 (dF
 (zW_2 cs)),.int i64 (dU (zW_2 cs)),.bool (dCa (zW_2 cs)),.str (dK (zW_3 cs)),.str (dG (zW_3 cs)),.nos 3 (dN (zW_3 cs)),.int i64 (dF
 (zW_3 cs)),.int i64 (dU (zW_3 cs)),.bool (dCa (zW_3 cs)),.str (dK (zW_6 cs)),.str (dG (zW_6 cs)),.nos 4 (dN (zW_6 cs)),.int i64 (dF
 (zW_6 cs)),.int i64 (dU (zW_6 cs)),.bool (dCa (zW_6 cs)),.str (dK (rdG (List.map ac cs) 3)),.str (dG (rdG (List.map ac cs) 3)),.nos 5
 (dN (rdG (List.map ac cs) 3)),.int i64 (dF (rdG (List.map ac cs) 3)),.int i64 (dU (rdG (List.map ac cs) 3)),.bool (dCa (rdG
 (List.map ac cs) 3))] 57 6,.ro true (zW_8 cs),.ro true (av 1 (strs (dL (zW_3 cs)))),.ro true (av 1 (strs (dL (zW_6 cs)))),.ro true
 (av 1 (strs (dL (rdG (List.map ac cs) 3))))]∧bif gi {u:=u,s:=s,m:=m,d:=d,x:=x,n:=n,cs:=cs,now:=now,i:=1}then bif matV u
 s m d now cs 1 then ∀(j:Int),R (.bool true)else ∀(j:Int),R (.bool false)else False else False else False):=by kernel_rfl
theorem dL_okLen(s:List UInt8):(dL s).all au=true:=by
 unfold dL dCd;cases hc:decR s with
 |none=>rfl
 |some c=>
  have h:=(dec_enc hc).2.2.1;rw[Bool.and_eq_true]at h;rw[List.all_eq_true];intro x hx;have:=jr (List.all_eq_true.1 h.2 x hx);exact decide_eq_true (by omega)
def rmatQ:List V→Option (List (Bool×(V×St)))
 |[.agg [.int .u8 u,.int .u8 s,.int .u8 m,.str d],.lst _ n cs,.str h,.int .i64 now]=>some [(okLL n cs&&au h&&(u8B s&&u8B m),(.bool (matB u s m d (cs.map ac) h now),[]))]
 |_=>none
theorem rmatQ_ok(args:List V)(L:List (Bool×(V×St)))(o:V×St)(h:rmatQ args=some L)(ho:az L=some o):FnSat Tryz.prog 10 args [] (Is o):=by
 unfold rmatQ at h;split at h
 ·rename_i u s m d x n cs h now;cases h;obtain⟨hk,rfl⟩:=aJ ho;rw[Bool.and_eq_true,Bool.and_eq_true]at hk;obtain⟨⟨hx0,hh⟩,hu⟩:=hk;have hx1:=hx0;unfold okLL at hx1;rw[Bool.and_eq_true]at hx1;obtain⟨l,rfl,rfl,p3,p4⟩:=c9 hx1.1;have hal:l.all au=true:=by have:=hx1.2;unfold iG at this;rw[ao]at this;exact this
  refine ax (lim:=9) (n:=10) mixed MQ1_ok rfl rfl ?_;refine cast (rmt_tree u s m d x l.length (strs l) h now _).symm ?_;unfold zW_9 zW_6 zW_5 zW_4 zW_3 zW_1 zW_7 zW_0 zW_8 zW_2;unfold matB;rw[ao];cases hu3:u==3 with
  |true=>
   rw[cond_true,cond_true];cases l with
   |nil=>exact ab (fun e=>absurd (of_decide_eq_true e) (by simp)) (fun _=>rfl)
   |cons a r=>
    have e1:decide (((a::r).length:Int)>0)=true:=decide_eq_true (by rw[List.length_cons];omega);have ha:au a=true:=List.all_eq_true.1 hal a List.mem_cons_self;rw[e1,cond_true];refine aa rfl (aa rfl (aa rfl (aa ?_ rfl)));show(au a&&(u8B s&&u8B m))=true;rw[ha,hu];rfl
  |false=>
  rw[cond_false,cond_false,hx0,Bool.true_and,Bool.true_and,Bool.true_and,Bool.true_and,Bool.true_and];have h4:=(ci l).1;have q1:(dN (rdG l 0)*1).ble (av 1 (strs (dL (rdG l 0)))).length=true:=by rw[fh,aF,Nat.mul_one];exact Nat.ble_eq_true_of_le (Nat.le_refl _)
  have q2:List.take (dN (rdG l 0)*1) (av 1 (strs (dL (rdG l 0))))=strs (dL (rdG l 0)):=by rw[fh,Nat.mul_one];exact List.take_of_length_le (by rw[aF];exact Nat.le_refl _)
  have q3:(strs (dL (rdG l 0))).length.beq (dN (rdG l 0))=true:=by rw[aF];exact Nat.beq_refl _
  have q4:(dL (rdG l 0)).length.ble 9223372036854775807=true:=Nat.ble_eq_true_of_le (by have:=pm (rdG l 0);omega);have pre:rdN l≠0→gi ⟨u,s,m,d,x,l.length,strs l,now,1⟩=true:=fun h0=>by
   unfold gi;rw[ao,hx0,hu,Nat.ble_eq_true_of_le (show 1≤rdN l by omega)];rfl
  have fin:∀{st:St} {j:Nat},rdN l=j→j≠0→rmS u s m d l=st→(u==2)=true→hasH (dL (rdG l 0)) h=true→(Fits 0 [.lst x l.length (strs l),.int .i64 now,.ptr 0 0,.bool false,.slice 1 0 (rdN l) false 0 0,.int .i64 1] (rmS u s m d l) [some (.lst x l.length (strs l)),some (.int .i64 now),some (.ptr 0 0),some (.bool false),some (.slice 1 0 j false 0 0),some (.int .i64 1)] st∧bif gi ⟨u,s,m,d,x,l.length,strs l,now,1⟩then bif matV u s m d now (strs l) 1 then ∀(j:Int),V.bool true=V.bool (bif u==2 then(!Nat.beq (rdN l) 0&&(hasH (dL (rdG l 0)) h&&matF u s m d now l (rdN l-1) 1))else false)else ∀(j:Int),V.bool false=V.bool (bif u==2 then(!Nat.beq (rdN l) 0&&(hasH (dL (rdG l 0)) h&&matF u s m d now l (rdN l-1) 1))else false)else False):=fun{st j} hj h0 hs hu2 hh=>by
   subst hj hs;have n0:Nat.beq (rdN l) 0=false:=by
    cases hb:Nat.beq (rdN l) 0 with
    |false=>rfl
    |true=>exact absurd (Nat.eq_of_beq_eq_true hb) h0
   refine⟨mq_fits x l.length (strs l) u s m d l now false (rdN l) 1,aa (pre h0) ?_⟩;unfold matV;rw[ao,hh,n0,hu2];cases hm:matF u s m d now l (rdN l-1) 1 with
   |true=>intro j;rfl
   |false=>intro j;rfl
  have no2:(u !=2)=true→V.bool false=V.bool (bif u==2 then(!Nat.beq (rdN l) 0&&(hasH (dL (rdG l 0)) h&&matF u s m d now l (rdN l-1) 1))else false):=fun e=>by rw[(by simpa using e:(u==2)=false)];rfl
  have no:hasH (dL (rdG l 0)) h=false→V.bool false=V.bool (bif u==2 then(!Nat.beq (rdN l) 0&&(hasH (dL (rdG l 0)) h&&matF u s m d now l (rdN l-1) 1))else false):=fun e=>by rw[e,Bool.false_and,Bool.and_false];cases u==2<;>rfl
  rw[q1,q2,bZ,q3,ao,q4,dL_okLen,hh];have nb:∀{k:Nat} {A:Prop},rdN l≠k→Nat.beq (rdN l) k=true→A:=fun h e=>absurd (Nat.eq_of_beq_eq_true e) h;have yb:∀{k:Nat} {A B:Prop},rdN l=k→A→(bif Nat.beq (rdN l) k then A else B):=fun h a=>by rw[h,Nat.beq_refl];exact a
  rcases(by omega:rdN l=0∨rdN l=1∨rdN l=2∨rdN l=3∨rdN l=4)with hj|hj|hj|hj|hj
  ·refine yb hj (ab (fun e=>no2 e) (fun e=>?_));rw[hj];cases u==2<;>rfl
  ·refine ab (fun e=>nb (by omega) e) (fun _=>?_);refine yb hj (ab (fun e=>no2 e) (fun e2=>aa rfl ?_));exact ab (fun e=>no (by simpa using e)) (fun e=>fin hj (by omega) (by unfold rmS rA rB rNm nmR rdT;rw[hj];rfl) (by simpa using e2) (by simpa using e))
  ·refine ab (fun e=>nb (by omega) e) (fun _=>?_);refine ab (fun e=>nb (by omega) e) (fun _=>?_);refine yb hj (ab (fun e=>no2 e) (fun e2=>aa rfl ?_));exact ab (fun e=>no (by simpa using e)) (fun e=>fin hj (by omega) (by unfold rmS rA rB rNm nmR rdT;rw[hj];rfl) (by simpa using e2) (by simpa using e))
  ·refine ab (fun e=>nb (by omega) e) (fun _=>?_);refine ab (fun e=>nb (by omega) e) (fun _=>?_);refine ab (fun e=>nb (by omega) e) (fun _=>?_);refine yb hj (ab (fun e=>no2 e) (fun e2=>aa rfl ?_));exact ab (fun e=>no (by simpa using e)) (fun e=>fin hj (by omega) (by unfold rmS rA rB rNm nmR rdT;rw[hj];rfl) (by simpa using e2) (by simpa using e))
  ·refine ab (fun e=>nb (by omega) e) (fun _=>?_);refine ab (fun e=>nb (by omega) e) (fun _=>?_);refine ab (fun e=>nb (by omega) e) (fun _=>?_);refine ab (fun e=>nb (by omega) e) (fun _=>?_);refine yb hj (ab (fun e=>no2 e) (fun e2=>aa rfl ?_));exact ab (fun e=>no (by simpa using e)) (fun e=>fin hj (by omega) (by unfold rmS rA rB rNm nmR rdT;rw[hj];rfl) (by simpa using e2) (by simpa using e))
 ·cases h
theorem kE(x:Value)(n:Nat)(cs:List V)(R:V→St→Prop):runM Tryz.prog T3 9 10 40 [.lst x n cs] R=
  (
 bif nilX x then R .nilSlice []else bif n.beq 0 then R (.slice 0 0 0 false 0 0) [.row [] 24 4]else bif cs.length.beq (n*4)&&cs.all V.one then bif (0+n).ble
 9223372036854775807&&((0+n)*24).ble 140737488355328 then R (.slice 1 0 (0+n) false 0 0) [.dead,.row cs 24 4]else False else False):=by kernel_rfl
def rT(cs:List V)(j:Nat):TL:=(tlD cs).getD j ⟨0,0,0,[]⟩
def clT(cs:List V):Nat→V×St
 |1=>(.slice 0 0 1 false 0 0,[.row (TL.cells (rT cs 0)) 24 4])
 |2=>(.slice 0 0 2 false 0 0,[.row (TL.cells (rT cs 0)++TL.cells (rT cs 1)) 24 4])
 |3=>(.slice 0 0 3 false 0 0,[.row (TL.cells (rT cs 0)++(TL.cells (rT cs 1)++TL.cells (rT cs 2))) 24 4])
 |_=>(.slice 0 0 4 false 0 0,[.row (TL.cells (rT cs 0)++(TL.cells (rT cs 1)++(TL.cells (rT cs 2)++TL.cells (rT cs 3)))) 24 4])
def cloneT:List V→Option (List (Bool×(V×St)))
 |[.lst x n cs]=>some [(nilX x,(.nilSlice,[])),(okT n cs&&Nat.beq n 0,(.slice 0 0 0 false 0 0,[.row [] 24 4])),(okT n cs&&Nat.beq n 1,clT cs 1),(okT n cs&&Nat.beq n 2,clT cs 2),(okT n cs&&Nat.beq n 3,clT cs 3),(okT n cs&&Nat.beq n 4,clT cs 4)]
 |_=>none
theorem rT_tls(l:List TL)(j:Nat):rT (tls l) j=l.getD j ⟨0,0,0,[]⟩:=by unfold rT;rw[cN]
theorem cZ{cells:List V}{b n:Nat}{st:St}{t:TypeId}(hf:aC cells=true)(hb:st[b]?=some (.row cells t 4)):Fits 0 [.slice 0 0 n false 0 0] [.row cells t 4] [some (.slice b 0 n false 0 0)] st:=
 ⟨[b],[.slice b 0 n false 0 0],rfl,rfl,FitsM.of ⟨.inr ⟨.row cells t 4,.inl (by simp only[renB,ar _ hf]),hb⟩,trivial⟩,by simp,fun i hi=>by omega⟩
theorem oneT:∀l:List TL,(tls l).all V.one=true
 |[]=>rfl
 |r::l=>by simp only[tls,List.all_cons,oneT l];rfl
theorem clone_ok(args:List V)(L:List (Bool×(V×St)))(o:V×St)(h:cloneT args=some L)(ho:az L=some o):FnSat Tryz.prog 40 args [] (Is o):=by
 unfold cloneT at h;split at h
 ·rename_i x n cs;cases h;cases hx:nilX x with
  |true=>
   rw[hx]at ho;cases ho;refine FnSat.fits (dj mixed rh ?_ (lim:=9) (n:=10));rw[kE,hx];exact⟨[],[.nilSlice],rfl,rfl,FitsM.of trivial,by decide,fun i hi=>by omega⟩
  |false=>
  rw[hx]at ho;cases hk:okT n cs with
  |false=>rw[hk]at ho;simp[az]at ho
  |true=>
  rw[hk]at ho;obtain⟨l,rfl,rfl,h1,h2⟩:=gh hk;have big:l.length≤4→l.length≠0→FnSat Tryz.prog 40 [.lst x l.length (tls l)] [] (Is (.slice 0 0 l.length false 0 0,[.row (tls l) 24 4])):=fun h4 h0=>by
   refine FnSat.fits (dj mixed rh ?_ (lim:=9) (n:=10));rw[kE,hx,cond_false];refine ab (fun e=>absurd (Nat.eq_of_beq_eq_true e) h0) (fun _=>?_);refine aa (by rw[dX,Nat.mul_comm,Nat.beq_refl,oneT];rfl) (aa (by rw[Bool.and_eq_true];exact⟨Nat.ble_eq_true_of_le (by omega),Nat.ble_eq_true_of_le (by omega)⟩) ?_);rw[Nat.zero_add];exact cZ (kO l) rfl
  match l,h1,h2,hk,ho,big with
  |[],_,_,hk,ho,_=>
   cases ho;refine FnSat.fits (dj mixed rh ?_ (lim:=9) (n:=10));rw[kE,hx];exact cZ rfl rfl
  |[a],_,_,_,ho,big=>cases ho;exact big (by simp) (by simp)
  |[a,b],_,_,_,ho,big=>cases ho;exact big (by simp) (by simp)
  |[a,b,c],_,_,_,ho,big=>cases ho;exact big (by simp) (by simp)
  |[a,b,c,d],_,_,_,ho,big=>cases ho;exact big (by simp) (by simp)
  |a::b::c::d::e::r,_,_,_,ho,_=>
   have ho:(none:Option (V×St))=some o:=ho;cases ho
 ·cases h
noncomputable def CL1:Tab:=⟨addT (addP noT 14 usP) 40 cloneT,noL,aL 9⟩
theorem CL1_ok:TabOk3 Tryz.prog CL1:=⟨aE (aN aA us_ok) clone_ok,aB,ak 9⟩
def k4(n:Nat):Nat:=(if 4<(n:Int)then 4 else(n:Int)).toNat
def q4(n:Nat)(cs:List V):List V:=List.take ((k4 n-0)*4) cs
noncomputable def zX_0:=V.slice 0 0 1 false 0 0
noncomputable def zX_1:=V.slice 0 0 2 false 0 0
theorem usa_tree(x:Value)(n:Nat)(cs:List V)(R:V→St→Prop):runM Tryz.prog CL1 9 10 13 [.lst x n cs] (fun v st=>R v (visD v st))=
 (
 bif decide (0≤if 4<(↑n:Int)then 4 else(↑n:Int))then bif true&&(k4 n).ble n then bif nilX (gR x 0 (k4 n) 4)then R .nilSlice []else bif okT
 ((k4 n)-0) (q4 n cs)&&((k4 n)-0).beq 0 then R (.slice 0 0 0 false 0 0) [.row [] 24 4]else bif okT ((k4 n)-0) (q4 n cs)&&((k4 n)-0).beq 1 then
 bif !usB (rT (q4 n cs) 0).u (rT (q4 n cs) 0).s (rT (q4 n cs) 0).m (rT (q4 n cs) 0).d then R (.slice 0 0 0 false 0 0) [.row [.int u8 0,.int
 u8 0,.int u8 0,.str []] 24 4]else R zX_0 [.row [.int u8 (rT (q4 n cs) 0).u,.int u8 (rT (q4 n cs) 0).s,.int
 u8 (rT (q4 n cs) 0).m,.str (rT (q4 n cs) 0).d] 24 4]else bif okT ((k4 n)-0) (q4 n cs)&&((k4 n)-0).beq 2 then bif !usB (rT (q4 n cs) 0).u (rT (q4
 n cs) 0).s (rT (q4 n cs) 0).m (rT (q4 n cs) 0).d then bif !!usB (rT (q4 n cs) 1).u (rT (q4 n cs) 1).s (rT (q4 n cs) 1).m (rT (q4 n cs) 1).d then R zX_0 [.row
 [.int u8 (rT (q4 n cs) 1).u,.int u8 (rT (q4 n cs) 1).s,.int u8 (rT (q4 n cs) 1).m,.str (rT (q4 n cs) 1).d,.int u8 0,
 .int u8 0,.int u8 0,.str []] 24 4,.dead]else R (.slice 0 0 0 false 0 0) [.row [.int u8 0,.int u8 0,.int
 u8 0,.str [],.int u8 0,.int u8 0,.int u8 0,.str []] 24 4,.dead]else bif !usB (rT (q4 n cs) 1).u (rT (q4 n cs) 1).s
 (rT (q4 n cs) 1).m (rT (q4 n cs) 1).d then R zX_0 [.row [.int u8 (rT (q4 n cs) 0).u,.int u8 (rT (q4 n cs) 0).s,.int u8 (rT (q4 n
 cs) 0).m,.str (rT (q4 n cs) 0).d,.int u8 0,.int u8 0,.int u8 0,.str []] 24 4]else R zX_1 [.row [.int u8 (rT (q4 n
 cs) 0).u,.int u8 (rT (q4 n cs) 0).s,.int u8 (rT (q4 n cs) 0).m,.str (rT (q4 n cs) 0).d,.int u8 (rT (q4 n cs) 1).u,.int
 u8 (rT (q4 n cs) 1).s,.int u8 (rT (q4 n cs) 1).m,.str (rT (q4 n cs) 1).d] 24 4]else bif okT ((k4 n)-0) (q4 n cs)&&((k4 n)-0).beq 3
 then bif !usB (rT (q4 n cs) 0).u (rT (q4 n cs) 0).s (rT (q4 n cs) 0).m (rT (q4 n cs) 0).d then bif !!usB (rT (q4 n cs) 1).u (rT (q4 n cs) 1).s (rT (q4 n cs) 1).m
 (rT (q4 n cs) 1).d then bif !!usB (rT (q4 n cs) 2).u (rT (q4 n cs) 2).s (rT (q4 n cs) 2).m (rT (q4 n cs) 2).d then R zX_1 [.row [.int u8 (rT (q4 n
 cs) 1).u,.int u8 (rT (q4 n cs) 1).s,.int u8 (rT (q4 n cs) 1).m,.str (rT (q4 n cs) 1).d,.int u8 (rT (q4 n cs) 2).u,.int
 u8 (rT (q4 n cs) 2).s,.int u8 (rT (q4 n cs) 2).m,.str (rT (q4 n cs) 2).d,.int u8 0,.int u8 0,.int u8 0,.str
 []] 24 4,.dead,.dead]else R zX_0 [.row [.int u8 (rT (q4 n cs) 1).u,.int u8 (rT (q4 n cs) 1).s,.int u8 (rT (q4 n cs)
 1).m,.str (rT (q4 n cs) 1).d,.int u8 0,.int u8 0,.int u8 0,.str [],.int u8 0,.int u8 0,.int u8 0,
 .str []] 24 4,.dead,.dead]else bif !!usB (rT (q4 n cs) 2).u (rT (q4 n cs) 2).s (rT (q4 n cs) 2).m (rT (q4 n cs) 2).d then R zX_0 [.row [.int
 u8 (rT (q4 n cs) 2).u,.int u8 (rT (q4 n cs) 2).s,.int u8 (rT (q4 n cs) 2).m,.str (rT (q4 n cs) 2).d,.int u8 0,.int
 u8 0,.int u8 0,.str [],.int u8 0,.int u8 0,.int u8 0,.str []] 24 4,.dead,.dead]else R (.slice 0 0 0
 false 0 0) [.row [.int u8 0,.int u8 0,.int u8 0,.str [],.int u8 0,.int u8 0,.int u8 0,.str [],
 .int u8 0,.int u8 0,.int u8 0,.str []] 24 4,.dead,.dead]else bif !usB (rT (q4 n cs) 1).u (rT (q4 n cs) 1).s (rT (q4 n cs)
 1).m (rT (q4 n cs) 1).d then bif !!usB (rT (q4 n cs) 2).u (rT (q4 n cs) 2).s (rT (q4 n cs) 2).m (rT (q4 n cs) 2).d then R zX_1 [.row [.int u8 (rT (q4
 n cs) 0).u,.int u8 (rT (q4 n cs) 0).s,.int u8 (rT (q4 n cs) 0).m,.str (rT (q4 n cs) 0).d,.int u8 (rT (q4 n cs) 2).u,.int
 u8 (rT (q4 n cs) 2).s,.int u8 (rT (q4 n cs) 2).m,.str (rT (q4 n cs) 2).d,.int u8 0,.int u8 0,.int u8 0,.str
 []] 24 4,.dead]else R zX_0 [.row [.int u8 (rT (q4 n cs) 0).u,.int u8 (rT (q4 n cs) 0).s,.int u8 (rT (q4 n cs) 0).m,.str
 (rT (q4 n cs) 0).d,.int u8 0,.int u8 0,.int u8 0,.str [],.int u8 0,.int u8 0,.int u8 0,.str []]
 24 4,.dead]else bif !usB (rT (q4 n cs) 2).u (rT (q4 n cs) 2).s (rT (q4 n cs) 2).m (rT (q4 n cs) 2).d then R zX_1 [.row [.int u8 (rT (q4 n cs)
 0).u,.int u8 (rT (q4 n cs) 0).s,.int u8 (rT (q4 n cs) 0).m,.str (rT (q4 n cs) 0).d,.int u8 (rT (q4 n cs) 1).u,.int u8
 (rT (q4 n cs) 1).s,.int u8 (rT (q4 n cs) 1).m,.str (rT (q4 n cs) 1).d,.int u8 0,.int u8 0,.int u8 0,.str []] 24 4]
 else R (.slice 0 0 3 false 0 0) [.row [.int u8 (rT (q4 n cs) 0).u,.int u8 (rT (q4 n cs) 0).s,.int u8 (rT (q4 n cs) 0).m,.str
 (rT (q4 n cs) 0).d,.int u8 (rT (q4 n cs) 1).u,.int u8 (rT (q4 n cs) 1).s,.int u8 (rT (q4 n cs) 1).m,.str (rT (q4 n cs) 1).d,
 .int u8 (rT (q4 n cs) 2).u,.int u8 (rT (q4 n cs) 2).s,.int u8 (rT (q4 n cs) 2).m,.str (rT (q4 n cs) 2).d] 24 4]else bif okT ((k4
 n)-0) (q4 n cs)&&((k4 n)-0).beq 4 then bif !usB (rT (q4 n cs) 0).u (rT (q4 n cs) 0).s (rT (q4 n cs) 0).m (rT (q4 n cs) 0).d then bif !!usB (rT (q4 n cs)
 1).u (rT (q4 n cs) 1).s (rT (q4 n cs) 1).m (rT (q4 n cs) 1).d then bif !!usB (rT (q4 n cs) 2).u (rT (q4 n cs) 2).s (rT (q4 n cs) 2).m (rT (q4 n cs) 2).d then bif
 !!usB (rT (q4 n cs) 3).u (rT (q4 n cs) 3).s (rT (q4 n cs) 3).m (rT (q4 n cs) 3).d then R (.slice 0 0 3 false 0 0) [.row [.int u8 (rT (q4 n cs) 1).u,
 .int u8 (rT (q4 n cs) 1).s,.int u8 (rT (q4 n cs) 1).m,.str (rT (q4 n cs) 1).d,.int u8 (rT (q4 n cs) 2).u,.int u8 (rT (q4
 n cs) 2).s,.int u8 (rT (q4 n cs) 2).m,.str (rT (q4 n cs) 2).d,.int u8 (rT (q4 n cs) 3).u,.int u8 (rT (q4 n cs) 3).s,.int
 u8 (rT (q4 n cs) 3).m,.str (rT (q4 n cs) 3).d,.int u8 0,.int u8 0,.int u8 0,.str []] 24 4,.dead,.dead,
 .dead]else R zX_1 [.row [.int u8 (rT (q4 n cs) 1).u,.int u8 (rT (q4 n cs) 1).s,.int u8 (rT (q4 n cs) 1).m,.str (rT (q4 n
 cs) 1).d,.int u8 (rT (q4 n cs) 2).u,.int u8 (rT (q4 n cs) 2).s,.int u8 (rT (q4 n cs) 2).m,.str (rT (q4 n cs) 2).d,.int
 u8 0,.int u8 0,.int u8 0,.str [],.int u8 0,.int u8 0,.int u8 0,.str []] 24 4,.dead,.dead,
 .dead]else bif !!usB (rT (q4 n cs) 3).u (rT (q4 n cs) 3).s (rT (q4 n cs) 3).m (rT (q4 n cs) 3).d then R zX_1 [.row [.int u8 (rT (q4 n cs) 1).u,
 .int u8 (rT (q4 n cs) 1).s,.int u8 (rT (q4 n cs) 1).m,.str (rT (q4 n cs) 1).d,.int u8 (rT (q4 n cs) 3).u,.int u8 (rT (q4
 n cs) 3).s,.int u8 (rT (q4 n cs) 3).m,.str (rT (q4 n cs) 3).d,.int u8 0,.int u8 0,.int u8 0,.str [],.int u8
 0,.int u8 0,.int u8 0,.str []] 24 4,.dead,.dead,.dead]else R zX_0 [.row [.int u8 (rT (q4 n cs) 1).u,.int
 u8 (rT (q4 n cs) 1).s,.int u8 (rT (q4 n cs) 1).m,.str (rT (q4 n cs) 1).d,.int u8 0,.int u8 0,.int u8 0,.str
 [],.int u8 0,.int u8 0,.int u8 0,.str [],.int u8 0,.int u8 0,.int u8 0,.str []] 24 4,.dead,
 .dead,.dead]else bif !!usB (rT (q4 n cs) 2).u (rT (q4 n cs) 2).s (rT (q4 n cs) 2).m (rT (q4 n cs) 2).d then bif !!usB (rT (q4 n cs) 3).u (rT (q4 n cs)
 3).s (rT (q4 n cs) 3).m (rT (q4 n cs) 3).d then R zX_1 [.row [.int u8 (rT (q4 n cs) 2).u,.int u8 (rT (q4 n cs) 2).s,.int u8 (rT
 (q4 n cs) 2).m,.str (rT (q4 n cs) 2).d,.int u8 (rT (q4 n cs) 3).u,.int u8 (rT (q4 n cs) 3).s,.int u8 (rT (q4 n cs) 3).m,.str
 (rT (q4 n cs) 3).d,.int u8 0,.int u8 0,.int u8 0,.str [],.int u8 0,.int u8 0,.int u8 0,.str []]
 24 4,.dead,.dead,.dead]else R zX_0 [.row [.int u8 (rT (q4 n cs) 2).u,.int u8 (rT (q4 n cs) 2).s,.int u8 (rT (q4 n
 cs) 2).m,.str (rT (q4 n cs) 2).d,.int u8 0,.int u8 0,.int u8 0,.str [],.int u8 0,.int u8 0,.int
 u8 0,.str [],.int u8 0,.int u8 0,.int u8 0,.str []] 24 4,.dead,.dead,.dead]else bif !!usB (rT (q4 n cs)
 3).u (rT (q4 n cs) 3).s (rT (q4 n cs) 3).m (rT (q4 n cs) 3).d then R zX_0 [.row [.int u8 (rT (q4 n cs) 3).u,.int u8 (rT (q4 n cs) 3).s,
 .int u8 (rT (q4 n cs) 3).m,.str (rT (q4 n cs) 3).d,.int u8 0,.int u8 0,.int u8 0,.str [],.int u8 0,.int
 u8 0,.int u8 0,.str [],.int u8 0,.int u8 0,.int u8 0,.str []] 24 4,.dead,.dead,.dead]else R
 (.slice 0 0 0 false 0 0) [.row [.int u8 0,.int u8 0,.int u8 0,.str [],.int u8 0,.int u8 0,.int
 u8 0,.str [],.int u8 0,.int u8 0,.int u8 0,.str [],.int u8 0,.int u8 0,.int u8 0,.str
 []] 24 4,.dead,.dead,.dead]else bif !usB (rT (q4 n cs) 1).u (rT (q4 n cs) 1).s (rT (q4 n cs) 1).m (rT (q4 n cs) 1).d then bif !!usB (rT (q4 n cs)
 2).u (rT (q4 n cs) 2).s (rT (q4 n cs) 2).m (rT (q4 n cs) 2).d then bif !!usB (rT (q4 n cs) 3).u (rT (q4 n cs) 3).s (rT (q4 n cs) 3).m (rT (q4 n cs) 3).d then R
 (.slice 0 0 3 false 0 0) [.row [.int u8 (rT (q4 n cs) 0).u,.int u8 (rT (q4 n cs) 0).s,.int u8 (rT (q4 n cs) 0).m,.str (rT (q4
 n cs) 0).d,.int u8 (rT (q4 n cs) 2).u,.int u8 (rT (q4 n cs) 2).s,.int u8 (rT (q4 n cs) 2).m,.str (rT (q4 n cs) 2).d,.int
 u8 (rT (q4 n cs) 3).u,.int u8 (rT (q4 n cs) 3).s,.int u8 (rT (q4 n cs) 3).m,.str (rT (q4 n cs) 3).d,.int u8 0,.int
 u8 0,.int u8 0,.str []] 24 4,.dead,.dead]else R zX_1 [.row [.int u8 (rT (q4 n cs) 0).u,.int u8 (rT (q4 n cs)
 0).s,.int u8 (rT (q4 n cs) 0).m,.str (rT (q4 n cs) 0).d,.int u8 (rT (q4 n cs) 2).u,.int u8 (rT (q4 n cs) 2).s,.int u8
 (rT (q4 n cs) 2).m,.str (rT (q4 n cs) 2).d,.int u8 0,.int u8 0,.int u8 0,.str [],.int u8 0,.int u8 0,.int
 u8 0,.str []] 24 4,.dead,.dead]else bif !!usB (rT (q4 n cs) 3).u (rT (q4 n cs) 3).s (rT (q4 n cs) 3).m (rT (q4 n cs) 3).d then R zX_1 [.row
 [.int u8 (rT (q4 n cs) 0).u,.int u8 (rT (q4 n cs) 0).s,.int u8 (rT (q4 n cs) 0).m,.str (rT (q4 n cs) 0).d,.int u8 (rT
 (q4 n cs) 3).u,.int u8 (rT (q4 n cs) 3).s,.int u8 (rT (q4 n cs) 3).m,.str (rT (q4 n cs) 3).d,.int u8 0,.int u8 0,.int
 u8 0,.str [],.int u8 0,.int u8 0,.int u8 0,.str []] 24 4,.dead,.dead]else R zX_0 [.row [.int u8
 (rT (q4 n cs) 0).u,.int u8 (rT (q4 n cs) 0).s,.int u8 (rT (q4 n cs) 0).m,.str (rT (q4 n cs) 0).d,.int u8 0,.int u8 0,
 .int u8 0,.str [],.int u8 0,.int u8 0,.int u8 0,.str [],.int u8 0,.int u8 0,.int u8 0,
 .str []] 24 4,.dead,.dead]else bif !usB (rT (q4 n cs) 2).u (rT (q4 n cs) 2).s (rT (q4 n cs) 2).m (rT (q4 n cs) 2).d then bif !!usB (rT (q4 n cs) 3).u
 (rT (q4 n cs) 3).s (rT (q4 n cs) 3).m (rT (q4 n cs) 3).d then R (.slice 0 0 3 false 0 0) [.row [.int u8 (rT (q4 n cs) 0).u,.int u8 (rT (q4
 n cs) 0).s,.int u8 (rT (q4 n cs) 0).m,.str (rT (q4 n cs) 0).d,.int u8 (rT (q4 n cs) 1).u,.int u8 (rT (q4 n cs) 1).s,.int
 u8 (rT (q4 n cs) 1).m,.str (rT (q4 n cs) 1).d,.int u8 (rT (q4 n cs) 3).u,.int u8 (rT (q4 n cs) 3).s,.int u8 (rT (q4 n cs)
 3).m,.str (rT (q4 n cs) 3).d,.int u8 0,.int u8 0,.int u8 0,.str []] 24 4,.dead]else R zX_1 [.row [.int u8 (rT
 (q4 n cs) 0).u,.int u8 (rT (q4 n cs) 0).s,.int u8 (rT (q4 n cs) 0).m,.str (rT (q4 n cs) 0).d,.int u8 (rT (q4 n cs) 1).u,.int
 u8 (rT (q4 n cs) 1).s,.int u8 (rT (q4 n cs) 1).m,.str (rT (q4 n cs) 1).d,.int u8 0,.int u8 0,.int u8 0,.str
 [],.int u8 0,.int u8 0,.int u8 0,.str []] 24 4,.dead]else bif !usB (rT (q4 n cs) 3).u (rT (q4 n cs) 3).s (rT (q4 n cs) 3).m
 (rT (q4 n cs) 3).d then R (.slice 0 0 3 false 0 0) [.row [.int u8 (rT (q4 n cs) 0).u,.int u8 (rT (q4 n cs) 0).s,.int u8 (rT (q4
 n cs) 0).m,.str (rT (q4 n cs) 0).d,.int u8 (rT (q4 n cs) 1).u,.int u8 (rT (q4 n cs) 1).s,.int u8 (rT (q4 n cs) 1).m,.str (rT
 (q4 n cs) 1).d,.int u8 (rT (q4 n cs) 2).u,.int u8 (rT (q4 n cs) 2).s,.int u8 (rT (q4 n cs) 2).m,.str (rT (q4 n cs) 2).d,.int
 u8 0,.int u8 0,.int u8 0,.str []] 24 4]else R (.slice 0 0 4 false 0 0) [.row [.int u8 (rT (q4 n cs) 0).u,.int
 u8 (rT (q4 n cs) 0).s,.int u8 (rT (q4 n cs) 0).m,.str (rT (q4 n cs) 0).d,.int u8 (rT (q4 n cs) 1).u,.int u8 (rT (q4 n cs)
 1).s,.int u8 (rT (q4 n cs) 1).m,.str (rT (q4 n cs) 1).d,.int u8 (rT (q4 n cs) 2).u,.int u8 (rT (q4 n cs) 2).s,.int u8
 (rT (q4 n cs) 2).m,.str (rT (q4 n cs) 2).d,.int u8 (rT (q4 n cs) 3).u,.int u8 (rT (q4 n cs) 3).s,.int u8 (rT (q4 n cs) 3).m,
 .str (rT (q4 n cs) 3).d] 24 4]else False else False else False):=by kernel_rfl
def bi:List TL→List TL
 |[]=>[]
 |r::l=>bif usB r.u r.s r.m r.d then r::bi l else bi l
def er:List TL→List V
 |[]=>[]
 |r::l=>bif usB r.u r.s r.m r.d then er l else .int .u8 0::.int .u8 0::.int .u8 0::.str []::er l
def usaL(cs:List V):List TL:=(tlD cs).take 4
def usaT:List V→Option (List (Bool×(V×St)))
 |[.lst x n cs]=>some [(okT n cs&&nilX (gR x 0 (k4 n) 4),(.nilSlice,[])),(okT n cs,(.slice 0 0 (bi (usaL cs)).length false 0 0,[.row (tls (bi (usaL cs))++er (usaL cs)) 24 4]))]
 |_=>none
theorem k4_eq(n:Nat):k4 n=min 4 n:=by unfold k4;split<;>omega
theorem usa_ok(args:List V)(L:List (Bool×(V×St)))(o:V×St)(h:usaT args=some L)(ho:az L=some o):FnSat Tryz.prog 13 args [] (Is o):=by
 unfold usaT at h;split at h
 ·rename_i x n cs;cases h;cases hk:okT n cs with
  |false=>rw[hk]at ho;simp[az]at ho
  |true=>
  rw[hk,Bool.true_and]at ho;obtain⟨l,rfl,rfl,h1,h2⟩:=gh hk;have hK:k4 l.length=(l.take 4).length:=by rw[k4_eq,List.length_take]
  have hq:q4 l.length (tls l)=tls (l.take 4):=by
   unfold q4;rw[Nat.sub_zero,k4_eq,Nat.mul_comm,tls_take];congr 1;rcases Nat.le_total 4 l.length with h|h
   ·rw[Nat.min_eq_left h]
   ·rw[Nat.min_eq_right h,List.take_of_length_le h,List.take_of_length_le (Nat.le_refl _)]
  have c1:decide (0≤if 4<(l.length:Int)then 4 else(l.length:Int))=true:=decide_eq_true (by split<;>omega);have c2:(true&&(k4 l.length).ble l.length)=true:=by rw[Bool.true_and];exact Nat.ble_eq_true_of_le (by rw[k4_eq];omega)
  refine FnSat.fits ((dj mixed CL1_ok (lim:=9) (n:=10) (cast (usa_tree x l.length (tls l) (fun v st=>Fits 0 [o.1] o.2 [some v] st)).symm ?_)).mono fun u st hq=>qQ hq);rw[c1,c2,cond_true,cond_true];cases hx:nilX (gR x 0 (k4 l.length) 4)with
  |true=>
   rw[hx]at ho;cases ho;exact⟨[],[.nilSlice],rfl,rfl,FitsM.of trivial,by decide,fun i hi=>by omega⟩
  |false=>
  rw[hx]at ho;have ho:(V.slice 0 0 (bi (usaL (tls l))).length false 0 0,[Blk.row (tls (bi (usaL (tls l)))++er (usaL (tls l))) 24 4])=o:=Option.some.inj ho;rw[←ho,cond_false,hq,Nat.sub_zero,hK];have hu:usaL (tls l)=l.take 4:=by unfold usaL;rw[cN]
  rw[hu];have hl:(l.take 4).length≤4:=by rw[List.length_take];omega
  have hkq:okT (l.take 4).length (tls (l.take 4))=true:=l7 (by omega);rw[hkq];clear hx ho hu hkq hK hq c1 c2 hk h1 h2;generalize l.take 4=q at*
  simp only[rT_tls,Bool.true_and]
  match q,hl with
  |[],_=>exact cZ rfl rfl
  |[a],_=>
   simp only[List.getD_cons_zero];cases ha:usB a.u a.s a.m a.d<;>(simp only[bi,er,ha,cond_true,cond_false];exact cZ rfl rfl)
  |[a,b],_=>
   simp only[List.getD_cons_zero,List.getD_cons_succ];cases ha:usB a.u a.s a.m a.d<;>cases hb:usB b.u b.s b.m b.d<;>(simp only[bi,er,ha,hb,cond_true,cond_false];exact cZ rfl rfl)
  |[a,b,c],_=>
   simp only[List.getD_cons_zero,List.getD_cons_succ];cases ha:usB a.u a.s a.m a.d<;>cases hb:usB b.u b.s b.m b.d<;>cases hc:usB c.u c.s c.m c.d<;>(simp only[bi,er,ha,hb,hc,cond_true,cond_false];exact cZ rfl rfl)
  |[a,b,c,d],_=>
   simp only[List.getD_cons_zero,List.getD_cons_succ];cases ha:usB a.u a.s a.m a.d<;>cases hb:usB b.u b.s b.m b.d<;>cases hc:usB c.u c.s c.m c.d<;>cases hd:usB d.u d.s d.m d.d<;>(simp only[bi,er,ha,hb,hc,hd,cond_true,cond_false];exact cZ rfl rfl)
  |a::b::c::d::e::r,hl=>simp only[List.length_cons]at hl;omega
 ·cases h
noncomputable def AY0:Tab:=⟨addT noT 9 matT,noL,aL 9⟩
theorem AY0_ok:TabOk3 Tryz.prog AY0:=⟨aE aA mat_ok,aB,ak 9⟩
def ayF(y1:Value)(p:Value)(k:Nat)(ds:List V)(y2:Value)(h:List UInt8)(y3:Value)(now:Int):V:=.func (.func 39) [] [.lptr y1 1 [.lst p k ds] 0,.lptr y2 1 [.str h] 0,.lptr y3 1 [.int .i64 now] 0]
noncomputable def zY_0(cs:List V)(i:Int):=[Blk.row [V.int u8 (af (cs.getD (i.toNat*4+0) (V.bool false))),V.int u8 (af (cs.getD (i.toNat*4+1) (V.bool false))),V.int u8 (af (cs.getD (i.toNat*4+2) (V.bool false))),V.str (ac (cs.getD (i.toNat*4+3) (V.bool false)))] 24 4]
theorem ay_round(x:Value)(n:Nat)(cs:List V)(y1:Value)(p:Value)(k:Nat)(ds:List V)(y2:Value)(h:List UInt8)(y3:Value)(now:Int)(i:Int)(R:Exit→List (Option V)→St→Prop):ah Tryz.prog AY0 9 10 (ad 9) 75 26 [0,1,4,7,8] [.lst x n cs,ayF y1 p k ds y2 h y3 now,.int .i64 0,.int .i64 n,.int .i64 i] [] R=
 (
 bif decide (i<(↑n:Int))then bif decide (0≤i)&&decide (i<(↑n:Int))then bif (i.toNat*4+4).ble cs.length then bif ae u8 (cs.getD
 (i.toNat*4+0) (.bool false))then bif ae u8 (cs.getD (i.toNat*4+1) (.bool false))then bif ae u8 (cs.getD (i.toNat*4+2)
 (.bool false))then bif al (cs.getD (i.toNat*4+3) (.bool false))then bif okS k ds&&(u8B ((af (cs.getD (i.toNat*4+1) (.bool false))))&&u8B
 ((af (cs.getD (i.toNat*4+2) (.bool false)))))then bif matB ((af (cs.getD (i.toNat*4+0) (.bool false)))) ((af (cs.getD (i.toNat*4+1)
 (.bool false)))) ((af (cs.getD (i.toNat*4+2) (.bool false)))) ((ac (cs.getD (i.toNat*4+3) (.bool false)))) (List.map ac ds) (h) (now)then
 R .ret [some (.lst x n cs),some (V.func (Fn.func 39) [] [V.lptr y1 1 [.lst p k ds] 0,V.lptr y2 1 [.str h] 0,V.lptr y3 1 [.int i64 now] 0]),
 some (.int i64 i),some (.int i64 (↑n:Int)),some (.int i64 i)] (zY_0 cs i)else R .normal [some (.lst x n cs),some (V.func
 (Fn.func 39) [] [V.lptr y1 1 [.lst p k ds] 0,V.lptr y2 1 [.str h] 0,V.lptr y3 1 [.int i64 now] 0]),some (.int i64 0),some (.int
 i64 (↑n:Int)),some (.int i64 (i64.wrap (i+1)))] (zY_0 cs i)else False else False else False else False else False else False else
 False else R (.exit 0) [some (.lst x n cs),some (V.func (Fn.func 39) [] [V.lptr y1 1 [.lst p k ds] 0,V.lptr y2 1 [.str h] 0,V.lptr y3 1 [.int
 i64 now] 0]),some (.int i64 0),some (.int i64 (↑n:Int)),some (.int i64 i)] []):=by kernel_rfl
def inU(r:TL):Bool:=u8B r.s&&u8B r.m
def anyC(l:List TL)(ds:List (List UInt8))(h:List UInt8)(now:Int):Bool:=l.any fun r=>matB r.u r.s r.m r.d ds h now
structure AY where
 x:Value
 n:Nat
 cs:List V
 y1:Value
 p:Value
 k:Nat
 ds:List V
 y2:Value
 h:List UInt8
 y3:Value
 now:Int
 i:Nat
def AY.f(z:AY):V:=ayF z.y1 z.p z.k z.ds z.y2 z.h z.y3 z.now
def ayV(z:AY):List V:=[.lst z.x z.n z.cs,ayF z.y1 z.p z.k z.ds z.y2 z.h z.y3 z.now,.int .i64 0,.int .i64 z.n,.int .i64 z.i]
def ayJ(_:AY):St:=[]
def py(z:AY):Bool:=okT z.n z.cs&&(okS z.k z.ds&&((tlD z.cs).all inU&&Nat.ble z.i z.n))
def ayMu(z:AY):Nat:=z.n-z.i
def ayDec:List (Option V)→St→Option AY
 |[some (.lst x n cs),some (.func (.func 39) [] [.lptr y1 1 [.lst p k ds] 0,.lptr y2 1 [.str h] 0,.lptr y3 1 [.int .i64 now] 0]),some (.int .i64 0),some (.int .i64 _),some (.int .i64 0)],_=>some ⟨x,n,cs,y1,p,k,ds,y2,h,y3,now,0⟩
 |_,_=>none
def ayW(cs ds:List V)(h:List UInt8)(now:Int)(i:Nat):Bool:=anyC ((tlD cs).drop i) (ds.map ac) h now
def sT(x:Value)(n:Nat)(cs:List V)(f:V)(b:Bool)(K:Exit→List V→St→Prop):Prop:=
 bif b then ∀i:Nat,K .ret [.lst x n cs,f,.int .i64 i,.int .i64 n,.int .i64 i] []else K (.exit 0) [.lst x n cs,f,.int .i64 0,.int .i64 n,.int .i64 n] []
def ayOut:Asks AY:=fun z K=>sT z.x z.n z.cs (ayF z.y1 z.p z.k z.ds z.y2 z.h z.y3 z.now) (ayW z.cs z.ds z.h z.now z.i) K
theorem ay_roundOk(z:AY)(hx:py z=true):ah Tryz.prog AY0 9 10 (ad 9) 75 26 [0,1,4,7,8] (ayV z) (ayJ z) (ay 0 py ayV ayJ ayMu ayOut z):=by
 obtain⟨x,n,cs,y1,p,k,ds,y2,h,y3,now,i⟩:=z;unfold py at hx;simp only[Bool.and_eq_true]at hx;have hx1:okT n cs=true:=hx.1;have hx2:okS k ds=true:=hx.2.1;have hx3:(tlD cs).all inU=true:=hx.2.2.1;have p1:i≤n:=Nat.le_of_ble_eq_true hx.2.2.2;obtain⟨l,rfl,rfl,p2,p3⟩:=gh hx1;rw[p3]at hx3;show ah Tryz.prog AY0 9 10 (ad 9) 75 26 [0,1,4,7,8] [.lst x l.length (tls l),ayF y1 p k ds y2 h y3 now,.int .i64 0,.int .i64 l.length,.int .i64 i] [] _;rw[ay_round];unfold zY_0;have out:∀K,ayOut ⟨x,l.length,tls l,y1,p,k,ds,y2,h,y3,now,i⟩ K→sT x l.length (tls l) (ayF y1 p k ds y2 h y3 now) (anyC (l.drop i) (ds.map ac) h now) K:=fun K hK=>by
  have hK:sT x l.length (tls l) (ayF y1 p k ds y2 h y3 now) (anyC ((tlD (tls l)).drop i) (ds.map ac) h now) K:=hK;rw[p3]at hK;exact hK
 have fl:∀a j:Int,aC [.lst x l.length (tls l),ayF y1 p k ds y2 h y3 now,.int .i64 a,.int .i64 l.length,.int .i64 j]=true:=fun _ _=>rfl;cases hd:l.drop i with
 |nil=>
  have hi:=bR hd p1;rw[decide_eq_false (show ¬((i:Int)<(l.length:Int)) by omega),cond_false];refine⟨_,[],fun K hK=>?_,bn _ (fl 0 i) _ rfl _⟩;have hK:=out K hK;rw[hd]at hK;have hn:i=l.length:=by omega
  rw[hn];exact hK
 |cons c r=>
  obtain⟨e1,e2,e3⟩:=bh hd;have get:∀j,j<4→(tls l).getD (i*4+j) (.bool false)=c.cells.getD j (.bool false):=fun j hj=>by
   obtain⟨t1,t2⟩:=tls_at hd hj;rw[List.getD_eq_getElem?_getD,List.getD_eq_getElem?_getD,Nat.mul_comm,t1]
  have g0:(tls l).getD (i*4+0) (.bool false)=.int .u8 c.u:=get 0 (by omega);have g1:(tls l).getD (i*4+1) (.bool false)=.int .u8 c.s:=get 1 (by omega);have g2:(tls l).getD (i*4+2) (.bool false)=.int .u8 c.m:=get 2 (by omega);have g3:(tls l).getD (i*4+3) (.bool false)=.str c.d:=get 3 (by omega);have hc:inU c=true:=List.all_eq_true.1 hx3 c (List.mem_of_mem_drop (by rw[hd];simp));have hc:(u8B c.s&&u8B c.m)=true:=hc;have d1:decide ((i:Int)<(l.length:Int))=true:=decide_eq_true (by omega);have d2:decide ((0:Int)≤(i:Int))=true:=decide_eq_true (by omega);have l4:(i*4+4).ble (tls l).length=true:=Nat.ble_eq_true_of_le (by rw[dX];omega);have w2:i64.wrap ((i:Int)+1)=((i+1:Nat):Int):=by rw[IntWalk.i64_in _ ⟨by omega,by omega⟩];omega
  simp only[d1,d2,Int.toNat_natCast,l4,g0,g1,g2,g3,al,ac,ae,af,decide_true,w2,hx2,hc,Bool.and_self,cond_true];have next:anyC (c::r) (ds.map ac) h now=(matB c.u c.s c.m c.d (ds.map ac) h now||anyC r (ds.map ac) h now):=rfl
  refine ab (fun e=>?_) (fun e=>?_)
  ·refine⟨_,[],fun K hK=>?_,bn _ (fl i i) _ rfl _⟩;have hK:=out K hK;rw[hd,next,e]at hK;exact hK i
  ·refine⟨⟨x,l.length,tls l,y1,p,k,ds,y2,h,y3,now,i+1⟩,?_,bn _ (fl 0 _) _ rfl _,by simp only[ayMu];omega,fun K hK=>?_⟩
   ·unfold py;simp only[Bool.and_eq_true];exact⟨hx1,hx2,by rw[p3];exact hx3,Nat.ble_eq_true_of_le (show i+1≤l.length by omega)⟩
   ·have hK:=out K hK;rw[hd,next,e,Bool.false_or]at hK;show sT x l.length (tls l) (ayF y1 p k ds y2 h y3 now) (anyC ((tlD (tls l)).drop (i+1)) (ds.map ac) h now) K;rw[p3,e2];exact hK
noncomputable def lkAY:Nat→Trans→Trans:=aR 26 (br 0 (szOf Tryz.prog 75) [0,1,4,7,8] ayDec py ayV ayJ ayOut) (ad 9)
theorem lkAY_ok:aD Tryz.prog 0 lkAY 75:=by
 unfold lkAY;exact bo (aP 9 0 75) (by kernel_rfl) fun f st Q h=>aU (P:=Tryz.prog) (T:=AY0) (k:=0) (lim:=9) (n:=10) (g:=75) (p0:=26) (lk:=ad 9) mixed AY0_ok (aS 9 _ _) ayMu ay_roundOk h
noncomputable def AY1:Tab:=⟨noT,noL,cn (aL 9) 75 0 lkAY⟩
theorem AY1_ok:TabOk3 Tryz.prog AY1:=⟨aA,aB,bc (ak 9) lkAY_ok⟩
theorem ay_tree(x:Value)(n:Nat)(cs:List V)(y1:Value)(p:Value)(k:Nat)(ds:List V)(y2:Value)(h:List UInt8)(y3:Value)(now:Int)(R:V→Prop):runW Tryz.prog AY1 9 10 38 [.lst x n cs,.func (.func 39) [] [.lptr y1 1 [.lst p k ds] 0,.lptr y2 1 [.str h] 0,.lptr y3 1 [.int .i64 now] 0]] R=
  (
 Fits 0 [.lst x n cs,V.func (Fn.func 39) [] [V.lptr y1 1 [.lst p k ds] 0,V.lptr y2 1 [.str h] 0,V.lptr y3 1 [.int i64 now] 0],.int i64 0,.int
 i64 (↑n:Int),.int i64 0] [] [some (.lst x n cs),some (V.func (Fn.func 39) [] [V.lptr y1 1 [.lst p k ds] 0,V.lptr y2 1 [.str h] 0,V.lptr y3 1
 [.int i64 now] 0]),some (.int i64 0),some (.int i64 (↑n:Int)),some (.int i64 0)] []∧bif py {x:=x,n:=n,cs:=cs,y1:=y1,p:=p,k:=k,ds:=ds,y2:=y2,h:=h,y3:=y3,now:=now,i:=0}
 then bif ayW cs ds h now 0 then ∀(i:Nat),R (.bool true)else R (.bool false)else False):=by kernel_rfl
theorem ay_sat(x:Value)(n:Nat)(cs:List V)(y1:Value)(p:Value)(k:Nat)(ds:List V)(y2:Value)(h:List UInt8)(y3:Value)(now:Int)(h1:okT n cs=true)(h2:okS k ds=true)(h3:(tlD cs).all inU=true):FnSat Tryz.prog 38 [.lst x n cs,.func (.func 39) [] [.lptr y1 1 [.lst p k ds] 0,.lptr y2 1 [.str h] 0,.lptr y3 1 [.int .i64 now] 0]] [] (Is (.bool (anyC (tlD cs) (ds.map ac) h now),[])):=by
 refine ax (lim:=9) (n:=10) mixed AY1_ok rfl rfl ?_;rw[ay_tree];have e:ayW cs ds h now 0=anyC (tlD cs) (ds.map ac) h now:=rfl;rw[e];refine⟨bn _ rfl _ rfl _,aa (by unfold py;rw[h1,h2,h3];exact Nat.ble_eq_true_of_le (Nat.zero_le _)) ?_⟩;cases anyC (tlD cs) (ds.map ac) h now with
 |false=>rfl
 |true=>intro _;rfl
end Go.Proofs.YthcoeoibejgaiaaGreatDoor
namespace Go.Proofs.YthcoeoibejgaiaaGreatDoor
open Go.IntKind (u8 u16 u32 u64 i8 i16 i32 i64)
open Go Go.Vm Go.RowKit
set_option linter.unusedVariables false
set_option maxRecDepth 100000
set_option linter.unusedSectionVars false
theorem func3{Φ Ψ:Frz}{m m':List MB}{fn:Fn}{v1 v2 v3:V}{x:Value}(h:@real _ Φ m (.func fn [] [v1,v2,v3])=some x):∃y1 y2 y3,@real _ Φ m v1=some y1∧@real _ Φ m v2=some y2∧@real _ Φ m v3=some y3∧
  ∀u1 u2 u3,@real _ Ψ m' u1=some y1→@real _ Ψ m' u2=some y2→@real _ Ψ m' u3=some y3→@real _ Ψ m' (.func fn [] [u1,u2,u3])=some x:=by
 cases h1:@real _ Φ m v1 with
 |none=>simp[real,ai,h1]at h
 |some y1=>
 cases h2:@real _ Φ m v2 with
 |none=>simp[real,ai,h1,h2]at h
 |some y2=>
 cases h3:@real _ Φ m v3 with
 |none=>simp[real,ai,h1,h2,h3]at h
 |some y3=>
 refine⟨y1,y2,y3,rfl,rfl,rfl,fun u1 u2 u3 k1 k2 k3=>?_⟩;simp only[real,ai,h1,h2,h3]at h;simp only[real,ai,k1,k2,k3];exact h
variable [Φ:Frz]
def anyOK(p:V)(k:Nat)(ds:List V)(st:St):Bool:=match fe st p with
 |some (c,l)=>c&&(okS k ds&&(l.all inU&&Nat.ble l.length 9223372036854775807))
 |none=>false
def anyW(p:V)(ds:List V)(h:List UInt8)(now:Int)(st:St):Bool:=match fe st p with
 |some (_,l)=>anyC l (ds.map ac) h now
 |none=>false
def anyFV(OK:V→Nat→List V→St→Bool)(AV:V→List V→List UInt8→Int→St→Bool):List V→St→Option (List (Bool×(V×St)))
 |[p,.func (.func 39) [] [.ptr b1 0,.ptr b2 0,.ptr b3 0]],st=>match st[b1]?,st[b2]?,st[b3]? with
  |some (.row [.lst _ k ds] _ _),some (.row [.str h] _ _),some (.row [.int .i64 now] _ _)=>some [(OK p k ds st,(.bool (AV p ds h now st),st))]
  |_,_,_=>none
 |_,_=>none
theorem anyFV_ok(args:List V)(s:St)(L:List (Bool×(V×St)))(o:V×St)(h:anyFV anyOK anyW args s=some L)(ho:az L=some o):FnSat Tryz.prog 38 args s (Is o):=by
 unfold anyFV at h;split at h
 ·rename_i p b1 b2 b3;split at h
  ·rename_i q k ds t1 s1 hh t2 s2 now t3 s3 hb1 hb2 hb3;cases h;obtain⟨hk,rfl⟩:=aJ ho;unfold anyOK at hk;unfold anyW;cases hv:fe s p with
   |none=>rw[hv]at hk;cases hk
   |some a=>
   obtain⟨c,l⟩:=a;rw[hv]at hk;simp only[Bool.and_eq_true]at hk;obtain⟨rfl,h1,h2,h3⟩:=hk;refine cE rfl fun B W0 w m rargs hr ha=>?_;obtain⟨a,r,q1,q2,rfl⟩:=aj ha;obtain⟨a2,r2,q3,q4,rfl⟩:=aj q2;simp only[ai,Option.some.injEq]at q4;subst q4;have e2:=kL hr hv q1;obtain⟨x1,x2,x3,f1,f2,f3,hf⟩:=func3 (Ψ:=Frz.of w) (m':=[]) q3;obtain⟨y1,g1⟩:=nx hr hb1 rfl f1;obtain⟨y2,g2⟩:=nx hr hb2 rfl f2;obtain⟨y3,g3⟩:=nx hr hb3 rfl f3;have hl:l.length≤9223372036854775807:=Nat.le_of_ble_eq_true h3;have:=@ay_sat (Frz.of w) a l.length (tls l) y1 q k ds y2 hh y3 now (l7 hl) h1 (by rw[cN];exact h2);rw[cN]at this;exact⟨[lstT a l,.func (.func 39) [] [.lptr y1 1 [.lst q k ds] 0,.lptr y2 1 [.str hh] 0,.lptr y3 1 [.int .i64 now] 0]],@aH _ (Frz.of w) [] _ _ _ _ e2 (@aH _ (Frz.of w) [] _ _ _ _ (hf _ _ _ g1 g2 g3) rfl),this⟩
  ·cases h
 ·cases h
noncomputable def AG(OK:V→Nat→List V→St→Bool)(AV:V→List V→List UInt8→Int→St→Bool):Tab:=⟨addT noT 13 usaT,addS noL 38 (anyFV OK AV),aL 9⟩
theorem AG_ok:TabOk3 Tryz.prog (AG anyOK anyW):=⟨aE aA usa_ok,cG aB anyFV_ok,ak 9⟩
theorem any_tree(OK:V→Nat→List V→St→Bool)(AV:V→List V→List UInt8→Int→St→Bool)(x:Value)(n:Nat)(cs:List V)(p:Value)(k:Nat)(ds:List V)(h:List UInt8)(now:Int)(R:V→Prop):runW Tryz.prog (AG OK AV) 9 10 11 [.lst x n cs,.lst p k ds,.str h,.int .i64 now] R=
  (
 bif okT n cs&&nilX (gR x 0 (k4 n) 4)then bif OK .nilSlice k ds [.row [.lst p k ds] 25 1,.row [.str h] 9 1,.row [.int i64 now] 3 1]then R
 (.bool (AV .nilSlice ds h now [.row [.lst p k ds] 25 1,.row [.str h] 9 1,.row [.int i64 now] 3 1]))else False else bif okT n cs then bif OK
 (.slice 3 0 (bi (usaL cs)).length false 0 0) k ds [.row [.lst p k ds] 25 1,.row [.str h] 9 1,.row [.int i64 now] 3 1,.row (av 3 (tls
 (bi (usaL cs))++er (usaL cs))) 24 4]then R (.bool (AV (.slice 3 0 (bi (usaL cs)).length false 0 0) ds h now [.row [.lst p k ds] 25 1,.row [.str h]
 9 1,.row [.int i64 now] 3 1,.row (av 3 (tls (bi (usaL cs))++er (usaL cs))) 24 4]))else False else False):=by kernel_rfl
theorem shA(k:Nat):∀a b:List V,av k (a++b)=av k a++av k b
 |[],b=>rfl
 |v::r,b=>by simp only[List.cons_append,av,shA k r b]
theorem shT(k:Nat):∀l:List TL,av k (tls l)=tls l
 |[]=>rfl
 |r::l=>by simp only[tls,av,V.shift,shT k l]
theorem shZ(k:Nat):∀q:List TL,av k (er q)=er q
 |[]=>rfl
 |r::l=>by
  rw[er];cases usB r.u r.s r.m r.d with
  |true=>exact shZ k l
  |false=>simp only[cond_false,av,V.shift,shZ k l]
theorem view_tls{st:St}{b:Nat}{l:List TL}{z:List V}(hb:(∃t sz,st[b]?=some (.row (tls l++z) t sz))∨∃o,st[b]?=some (.ro o (tls l++z)))(ex:Bool)(c zz:Nat):fe st (.slice b 0 l.length ex c zz)=some (true,l):=by
 have ht:List.take (l.length*4) (tls l++z)=tls l:=by
  rw[List.take_append_of_le_length (by rw[dX];omega)];exact List.take_of_length_le (by rw[dX];omega)
 have hle:(0+l.length*4).ble (tls l++z).length=true:=Nat.ble_eq_true_of_le (by rw[List.length_append,dX];omega);have hv:cH st 4 (.slice b 0 l.length ex c zz)=some (true,(l.length,tls l)):=by
  rcases hb with⟨t,sz,hb⟩|⟨o,hb⟩<;>simp only[cH,hb,hle,List.drop_zero,ht]
 unfold fe;rw[hv];simp only[lw,cN,Nat.beq_refl,Bool.and_self]
theorem lC{p:TL→Bool}:∀q:List TL,q.all p=true→(bi q).all p=true
 |[],_=>rfl
 |r::l,h=>by
  rw[List.all_cons,Bool.and_eq_true]at h;rw[bi];cases usB r.u r.s r.m r.d with
  |true=>rw[cond_true,List.all_cons,h.1,lC l h.2];rfl
  |false=>exact lC l h.2
theorem o7:∀q:List TL,(bi q).length≤q.length
 |[]=>Nat.le_refl _
 |r::l=>by
  have:=o7 l;rw[bi];cases usB r.u r.s r.m r.d with
  |true=>simpa using this
  |false=>rw[cond_false,List.length_cons];omega
theorem take_all{α:Type}{p:α→Bool}{l:List α}(n:Nat)(h:l.all p=true):(l.take n).all p=true:=by
 rw[List.all_eq_true]at h ⊢;exact fun x hx=>h x (List.mem_of_mem_take hx)
theorem nil_zero{m:List MB}{x y:Value}{n:Nat}{cs:List V}(h:real m (.lst x n cs)=some y)(hn:nilX (gR x 0 (k4 n) 4)=true):n=0:=by
 obtain⟨xs,_,_,hk⟩:=dr h;rcases hk with⟨a,cap,rfl,rfl,_⟩|⟨b,off,cap,arr,t,fz,rfl,h1,h2,_⟩
 ·rfl
 ·exfalso;unfold gR nilX at hn;simp only at hn;rw[if_neg (by omega)]at hn;cases hn
def anyT:List V→Option (List (Bool×(V×St)))
 |[.lst _ n cs,.lst _ k ds,.str h,.int .i64 now]=>some [(okT n cs&&(okS k ds&&(tlD cs).all inU),(.bool (anyC (bi (usaL cs)) (ds.map ac) h now),[]))]
 |_=>none
theorem anyT_ok(args:List V)(L:List (Bool×(V×St)))(o:V×St)(h:anyT args=some L)(ho:az L=some o):FnSat Tryz.prog 11 args [] (Is o):=by
 unfold anyT at h;split at h
 ·rename_i x n cs p k ds hh now;cases h;obtain⟨hk,rfl⟩:=aJ ho;simp only[Bool.and_eq_true]at hk;obtain⟨h1,h2,h3⟩:=hk;intro B W0 m w rargs hargs hr;obtain⟨a,r,q1,q2,e⟩:=aj hargs;refine(show FnSat Tryz.prog 11 [.lst x n cs,.lst p k ds,.str hh,.int .i64 now] [] (Is (.bool (anyC (bi (usaL cs)) (ds.map ac) hh now),[]))from ?_) B W0 m w rargs hargs hr;refine ax (lim:=9) (n:=10) mixed AG_ok rfl rfl ?_;rw[any_tree,h1,Bool.true_and];refine ab (fun hn=>?_) (fun _=>?_)
  ·have n0:=nil_zero q1 hn;subst n0;obtain⟨l,rfl,e0,_⟩:=gh h1;have:l=[]:=List.eq_nil_of_length_eq_zero e0.symm;subst this;refine aa ?_ rfl;show(true&&(okS k ds&&(([]:List TL).all inU&&Nat.ble 0 9223372036854775807)))=true;rw[h2];rfl
  ·rw[cond_true];have hlen:(bi (usaL cs)).length≤4:=by
    have:=o7 (usaL cs);have h4:(usaL cs).length≤4:=by unfold usaL;rw[List.length_take];omega
    omega
   have hv:fe [Blk.row [V.lst p k ds] 25 1,Blk.row [V.str hh] 9 1,Blk.row [V.int i64 now] 3 1,Blk.row (av 3 (tls (bi (usaL cs))++er (usaL cs))) 24 4] (V.slice 3 0 (bi (usaL cs)).length false 0 0)=some (true,bi (usaL cs)):=by
    refine view_tls (z:=er (usaL cs)) (.inl ⟨24,4,?_⟩) false 0 0;rw[shA,shT,shZ];rfl
   unfold anyOK anyW;rw[hv];refine aa ?_ rfl;show(true&&(okS k ds&&((bi (usaL cs)).all inU&&Nat.ble (bi (usaL cs)).length 9223372036854775807)))=true;have hg:(bi (usaL cs)).all inU=true:=lC _ (take_all 4 h3);rw[h2,hg,Nat.ble_eq_true_of_le (by omega)];rfl
 ·cases h
def anyG:List V→St→Option (List (Bool×(V×St)))
 |[p,q,.str h,.int .i64 now],st=>match fe st p,bJ st q with
  |some (b,l),some (c,r)=>some [(b&&(c&&(l.all inU&&(Nat.ble l.length 9223372036854775807&&Nat.ble r.length 9223372036854775807))),(.bool (anyC (bi (l.take 4)) r h now),st))]
  |_,_=>none
 |_,_=>none
theorem anyG_ok(args:List V)(s:St)(L:List (Bool×(V×St)))(o:V×St)(h:anyG args s=some L)(ho:az L=some o):FnSat Tryz.prog 11 args s (Is o):=by
 unfold anyG at h;split at h
 ·rename_i p q hh now;split at h
  ·rename_i b l c r hv hw;cases h;obtain⟨hk,rfl⟩:=aJ ho;simp only[Bool.and_eq_true]at hk;obtain⟨rfl,rfl,h1,h2,h3⟩:=hk;refine cE rfl fun B W0 w m rargs hr ha=>?_;obtain⟨a,r1,q1,q2,rfl⟩:=aj ha;obtain⟨a2,r2,q3,q4,rfl⟩:=aj q2;have e1:=kL hr hv q1;have e2:=eV hr hw q3;have h2:=Nat.le_of_ble_eq_true h2;have h3:=Nat.le_of_ble_eq_true h3;have:=@anyT_ok (Frz.of w) [lstT a l,lstS a2 r,.str hh,.int .i64 now] _ (.bool (anyC (bi (l.take 4)) r hh now),[]) (by unfold lstT lstS anyT;rfl) (by
    rw[l7 h2,ip h3,cN,h1,ao];unfold usaL;rw[cN];rfl)
   exact⟨[lstT a l,lstS a2 r,.str hh,.int .i64 now],@aH _ (Frz.of w) [] _ _ _ _ e1 (@aH _ (Frz.of w) [] _ _ _ _ e2 q4),this⟩
  ·cases h
 ·cases h
end Go.Proofs.YthcoeoibejgaiaaGreatDoor
namespace Go.Proofs.YthcoeoibejgaiaaGreatDoor
open Go Go.Vm Go.RowKit
set_option linter.unusedVariables false
set_option maxRecDepth 100000
set_option linter.unusedSectionVars false
variable [Φ:Frz]
def yOK(p q:V)(st:St):Bool:=match fe st p,bJ st q with
 |some (b,l),some (c,r)=>b&&(c&&(l.all inU&&(Nat.ble l.length 9223372036854775807&&Nat.ble r.length 9223372036854775807)))
 |_,_=>false
def yV(p q:V)(h:List UInt8)(now:Int)(st:St):Bool:=match fe st p,bJ st q with
 |some (_,l),some (_,r)=>anyC (bi (l.take 4)) r h now
 |_,_=>false
def anyGV(OK:V→V→St→Bool)(AV:V→V→List UInt8→Int→St→Bool):List V→St→Option (List (Bool×(V×St)))
 |[p,q,.str h,.int .i64 now],st=>some [(OK p q st,(.bool (AV p q h now st),st))]
 |_,_=>none
theorem anyGV_ok(args:List V)(s:St)(L:List (Bool×(V×St)))(o:V×St)(h:anyGV yOK yV args s=some L)(ho:az L=some o):FnSat Tryz.prog 11 args s (Is o):=by
 unfold anyGV at h;split at h
 ·rename_i p q hh now;cases h;obtain⟨hb,rfl⟩:=aJ ho;unfold yOK at hb;split at hb
  ·rename_i b l c r hv hw;have hL:yV p q hh now s=anyC (bi (l.take 4)) r hh now:=by unfold yV;rw[hv,hw]
   rw[hL];refine anyG_ok [p,q,.str hh,.int .i64 now] s [(b&&(c&&(l.all inU&&(Nat.ble l.length 9223372036854775807&&Nat.ble r.length 9223372036854775807))),(.bool (anyC (bi (l.take 4)) r hh now),s))] _ (by simp only[anyG,hv,hw]) ?_;rw[hb];rfl
  ·cases hb
 ·cases h
end Go.Proofs.YthcoeoibejgaiaaGreatDoor
namespace Go.Proofs.YthcoeoibejgaiaaGreatDoor
open Go.IntKind (u8 u16 u32 u64 i8 i16 i32 i64)
open Go Go.Vm Go.RowKit
set_option linter.unusedVariables false
set_option linter.unusedSectionVars false
set_option maxRecDepth 100000
variable [Φ:Frz]
noncomputable def RU0:Tab:=⟨addT noT 22 rusP,noL,aL 9⟩
theorem RU0_ok:TabOk3 Tryz.prog RU0:=⟨aE aA rus_ok,aB,ak 9⟩
noncomputable def dH(cs:List V):=af (cs.getD 10 (V.bool false))
noncomputable def dE(cs:List V):=af (cs.getD 9 (V.bool false))
noncomputable def cT(cs:List V):=cs.getD 11 (V.bool false)
noncomputable def cS(cs:List V):=cs.getD 8 (V.bool false)
noncomputable def fg(cs:List V):=af (cs.getD 5 (V.bool false))
noncomputable def ff(cs:List V):=af (cs.getD 6 (V.bool false))
noncomputable def ga(cs:List V):=af (cs.getD 1 (V.bool false))
noncomputable def f9(cs:List V):=af (cs.getD 2 (V.bool false))
noncomputable def f8(cs:List V):=af (cs.getD 4 (V.bool false))
noncomputable def f7(cs:List V):=ac (cs.getD 7 (V.bool false))
noncomputable def gQ(cs:List V):=af (cs.getD 0 (V.bool false))
noncomputable def gP(cs:List V):=ac (cs.getD 3 (V.bool false))
noncomputable def zba_0(cs:List V):=[Blk.dead,Blk.dead,Blk.dead,Blk.dead,Blk.dead,Blk.row [V.int u8 (gQ cs),V.int u8 (ga cs),V.int u8 (f9 cs),V.str (gP cs),V.int u8 (f8 cs),V.int u8 (fg cs),V.int u8 (ff cs),V.str (f7 cs),V.int u8 (af (cS cs)),V.int u8 (dE cs),V.int u8 (dH cs),V.str (ac (cT cs))] 24 4]
noncomputable def zba_1(cs:List V):=[Blk.dead,Blk.dead,Blk.dead,Blk.row [V.int u8 (gQ cs),V.int u8 (ga cs),V.int u8 (f9 cs),V.str (gP cs),V.int u8 (f8 cs),V.int u8 (fg cs),V.int u8 (ff cs),V.str (f7 cs)] 24 4]
noncomputable def dy(cs:List V):=cs.getD 13 (V.bool false)
noncomputable def dh(cs:List V):=af (dy cs)
noncomputable def dx(cs:List V):=cs.getD 14 (V.bool false)
noncomputable def dg(cs:List V):=af (dx cs)
noncomputable def bA(cs:List V):=cs.getD 12 (V.bool false)
noncomputable def bz(cs:List V):=cs.getD 15 (V.bool false)
noncomputable def zba_2(cs:List V):=[Blk.dead,Blk.dead,Blk.dead,Blk.dead,Blk.dead,Blk.dead,Blk.dead,Blk.row [V.int u8 (gQ cs),V.int u8 (ga cs),V.int u8 (f9 cs),V.str (gP cs),V.int u8 (f8 cs),V.int u8 (fg cs),V.int u8 (ff cs),V.str (f7 cs),V.int u8 (af (cS cs)),V.int u8 (dE cs),V.int u8 (dH cs),V.str (ac (cT cs)),V.int u8 (af (bA cs)),V.int u8 (dh cs),V.int u8 (dg cs),V.str (ac (bz cs))] 24 4]
noncomputable def zba_3(cs:List V):=[Blk.dead,Blk.dead,Blk.dead,Blk.row [V.int u8 (gQ cs),V.int u8 (ga cs),V.int u8 (f9 cs),V.str (gP cs),V.int u8 (af (cS cs)),V.int u8 (dE cs),V.int u8 (dH cs),V.str (ac (cT cs))] 24 4]
noncomputable def zba_4(cs:List V):=[Blk.dead,Blk.dead,Blk.dead,Blk.row [V.int u8 (f8 cs),V.int u8 (fg cs),V.int u8 (ff cs),V.str (f7 cs),V.int u8 (af (cS cs)),V.int u8 (dE cs),V.int u8 (dH cs),V.str (ac (cT cs))] 24 4]
noncomputable def pN(cs:List V):=[Blk.dead,Blk.row [V.int u8 (gQ cs),V.int u8 (ga cs),V.int u8 (f9 cs),V.str (gP cs)] 24 4]
noncomputable def zba_8(cs:List V):=[Blk.dead,Blk.row [V.int u8 (f8 cs),V.int u8 (fg cs),V.int u8 (ff cs),V.str (f7 cs)] 24 4]
noncomputable def zba_9(cs:List V):=[Blk.dead,Blk.dead,Blk.dead,Blk.dead,Blk.dead,Blk.row [V.int u8 (gQ cs),V.int u8 (ga cs),V.int u8 (f9 cs),V.str (gP cs),V.int u8 (af (cS cs)),V.int u8 (dE cs),V.int u8 (dH cs),V.str (ac (cT cs)),V.int u8 (af (bA cs)),V.int u8 (dh cs),V.int u8 (dg cs),V.str (ac (bz cs))] 24 4]
noncomputable def zba_10(cs:List V):=[Blk.dead,Blk.dead,Blk.dead,Blk.dead,Blk.dead,Blk.row [V.int u8 (f8 cs),V.int u8 (fg cs),V.int u8 (ff cs),V.str (f7 cs),V.int u8 (af (cS cs)),V.int u8 (dE cs),V.int u8 (dH cs),V.str (ac (cT cs)),V.int u8 (af (bA cs)),V.int u8 (dh cs),V.int u8 (dg cs),V.str (ac (bz cs))] 24 4]
noncomputable def zba_11(cs:List V):=[Blk.dead,Blk.dead,Blk.dead,Blk.dead,Blk.dead,Blk.row [V.int u8 (gQ cs),V.int u8 (ga cs),V.int u8 (f9 cs),V.str (gP cs),V.int u8 (f8 cs),V.int u8 (fg cs),V.int u8 (ff cs),V.str (f7 cs),V.int u8 (af (bA cs)),V.int u8 (dh cs),V.int u8 (dg cs),V.str (ac (bz cs))] 24 4]
noncomputable def rl(cs:List V):=[Blk.dead,Blk.row [V.int u8 (af (cS cs)),V.int u8 (dE cs),V.int u8 (dH cs),V.str (ac (cT cs))] 24 4]
noncomputable def zba_17(cs:List V):=[Blk.dead,Blk.dead,Blk.dead,Blk.row [V.int u8 (gQ cs),V.int u8 (ga cs),V.int u8 (f9 cs),V.str (gP cs),V.int u8 (af (bA cs)),V.int u8 (dh cs),V.int u8 (dg cs),V.str (ac (bz cs))] 24 4]
noncomputable def zba_18(cs:List V):=[Blk.dead,Blk.dead,Blk.dead,Blk.row [V.int u8 (f8 cs),V.int u8 (fg cs),V.int u8 (ff cs),V.str (f7 cs),V.int u8 (af (bA cs)),V.int u8 (dh cs),V.int u8 (dg cs),V.str (ac (bz cs))] 24 4]
noncomputable def zba_19(cs:List V):=[Blk.dead,Blk.dead,Blk.dead,Blk.row [V.int u8 (af (cS cs)),V.int u8 (dE cs),V.int u8 (dH cs),V.str (ac (cT cs)),V.int u8 (af (bA cs)),V.int u8 (dh cs),V.int u8 (dg cs),V.str (ac (bz cs))] 24 4]
noncomputable def dD:=V.slice 3 0 2 false 0 0
noncomputable def eu:=V.slice 1 0 1 false 0 0
theorem rusa_tree(x:Value)(n:Nat)(cs:List V)(R:V→St→Prop):runM Tryz.prog RU0 9 10 20 [.lst x n cs] (fun v st=>R v (vis v st))=
 (
 bif decide (0<(↑n:Int))then bif true&&decide (0<(↑n:Int))then bif Nat.ble 4 cs.length then bif ae u8 (cs.getD 0 (.bool false))then bif
 ae u8 (cs.getD 1 (.bool false))then bif ae u8 (cs.getD 2 (.bool false))then bif al (cs.getD 3 (.bool false))then bif u8B
 (ga cs)&&u8B (f9 cs)then bif usB (gQ cs) (ga cs) (f9 cs) (gP cs)then bif true&&decide (0<(↑n:Int))then bif Nat.ble 4 cs.length
 then bif ae u8 (cs.getD 0 (.bool false))then bif ae u8 (cs.getD 1 (.bool false))then bif ae u8 (cs.getD 2 (.bool false))
 then bif al (cs.getD 3 (.bool false))then bif decide (1<(↑n:Int))then bif true&&decide (1<(↑n:Int))then bif Nat.ble 8 cs.length then bif ae
 u8 (cs.getD 4 (.bool false))then bif ae u8 (cs.getD 5 (.bool false))then bif ae u8 (cs.getD 6 (.bool false))then bif al
 (cs.getD 7 (.bool false))then bif u8B (fg cs)&&u8B (ff cs)then bif usB (f8 cs) (fg cs) (ff cs) (f7 cs)then bif true&&decide (1<
 (↑n:Int))then bif Nat.ble 8 cs.length then bif ae u8 (cs.getD 4 (.bool false))then bif ae u8 (cs.getD 5 (.bool false))then bif
 ae u8 (cs.getD 6 (.bool false))then bif al (cs.getD 7 (.bool false))then bif decide (2<(↑n:Int))then bif true&&decide (2<(↑n:Int))
 then bif Nat.ble 12 cs.length then bif ae u8 (cS cs)then bif ae u8 (cs.getD 9 (.bool false))then bif ae u8 (cs.getD 10
 (.bool false))then bif al (cT cs)then bif u8B (dE cs)&&u8B (dH cs)then bif usB (af (cS cs)) (dE cs) (dH cs) (ac (cT
 cs))then bif true&&decide (2<(↑n:Int))then bif Nat.ble 12 cs.length then bif ae u8 (cS cs)then bif ae u8 (cs.getD 9 (.bool
 false))then bif ae u8 (cs.getD 10 (.bool false))then bif al (cT cs)then bif decide (3<(↑n:Int))then bif true&&decide (3<(↑n:
 Int))then bif Nat.ble 16 cs.length then bif ae u8 (bA cs)then bif ae u8 (dy cs)then bif ae u8 (dx cs)then bif
 al (bz cs)then bif u8B (dh cs)&&u8B (dg cs)then bif usB (af (bA cs)) (dh cs) (dg cs) (ac (bz cs))then bif true&&decide
 (3<(↑n:Int))then bif Nat.ble 16 cs.length then bif ae u8 (bA cs)then bif ae u8 (dy cs)then bif ae u8 (dx
 cs)then bif al (bz cs)then bif decide (4<(↑n:Int))then R (.slice 7 0 4 false 0 0) (zba_2 cs)else R (.slice 7 0 4 false 0 0) (zba_2 cs)else
 False else False else False else False else False else False else bif decide (4<(↑n:Int))then R (.slice 5 0 3 false 0 0) (zba_0 cs)else R (.slice 5 0 3
 false 0 0) (zba_0 cs)else False else False else False else False else False else False else False else R (.slice 5 0 3 false 0 0) (zba_0 cs)else False else
 False else False else False else False else False else bif decide (3<(↑n:Int))then bif true&&decide (3<(↑n:Int))then bif Nat.ble 16 cs.length then
 bif ae u8 (bA cs)then bif ae u8 (dy cs)then bif ae u8 (dx cs)then bif al (bz cs)then bif u8B (dh
 cs)&&u8B (dg cs)then bif usB (af (bA cs)) (dh cs) (dg cs) (ac (bz cs))then bif true&&decide (3<(↑n:Int))then bif Nat.ble 16
 cs.length then bif ae u8 (bA cs)then bif ae u8 (dy cs)then bif ae u8 (dx cs)then bif al (bz cs)then
 bif decide (4<(↑n:Int))then R (.slice 5 0 3 false 0 0) (zba_11 cs)else R (.slice 5 0 3 false 0 0) (zba_11 cs)else False else False else False else False
 else False else False else bif decide (4<(↑n:Int))then R dD (zba_1 cs)else R dD (zba_1 cs)else False else False else False else False else False
 else False else False else R dD (zba_1 cs)else False else False else False else False else False else False else False else R dD (zba_1 cs)else False
 else False else False else False else False else False else bif decide (2<(↑n:Int))then bif true&&decide (2<(↑n:Int))then bif Nat.ble 12 cs.length
 then bif ae u8 (cS cs)then bif ae u8 (cs.getD 9 (.bool false))then bif ae u8 (cs.getD 10 (.bool false))then bif
 al (cT cs)then bif u8B (dE cs)&&u8B (dH cs)then bif usB (af (cS cs)) (dE cs) (dH cs) (ac (cT cs))then bif true&&
 decide (2<(↑n:Int))then bif Nat.ble 12 cs.length then bif ae u8 (cS cs)then bif ae u8 (cs.getD 9 (.bool false))then bif
 ae u8 (cs.getD 10 (.bool false))then bif al (cT cs)then bif decide (3<(↑n:Int))then bif true&&decide (3<(↑n:Int))then bif
 Nat.ble 16 cs.length then bif ae u8 (bA cs)then bif ae u8 (dy cs)then bif ae u8 (dx cs)then bif al (bz
 cs)then bif u8B (dh cs)&&u8B (dg cs)then bif usB (af (bA cs)) (dh cs) (dg cs) (ac (bz cs))then bif true&&decide (3<(↑n:
 Int))then bif Nat.ble 16 cs.length then bif ae u8 (bA cs)then bif ae u8 (dy cs)then bif ae u8 (dx cs)then bif
 al (bz cs)then bif decide (4<(↑n:Int))then R (.slice 5 0 3 false 0 0) (zba_9 cs)else R (.slice 5 0 3 false 0 0) (zba_9 cs)else False else False
 else False else False else False else False else bif decide (4<(↑n:Int))then R dD (zba_3 cs)else R dD (zba_3 cs)else False else False else False
 else False else False else False else False else R dD (zba_3 cs)else False else False else False else False else False else False else bif decide (3<(↑n:
 Int))then bif true&&decide (3<(↑n:Int))then bif Nat.ble 16 cs.length then bif ae u8 (bA cs)then bif ae u8 (dy cs)then
 bif ae u8 (dx cs)then bif al (bz cs)then bif u8B (dh cs)&&u8B (dg cs)then bif usB (af (bA cs)) (dh cs) (dg cs)
 (ac (bz cs))then bif true&&decide (3<(↑n:Int))then bif Nat.ble 16 cs.length then bif ae u8 (bA cs)then bif ae u8
 (dy cs)then bif ae u8 (dx cs)then bif al (bz cs)then bif decide (4<(↑n:Int))then R dD (zba_17 cs)else R dD (zba_17
 cs)else False else False else False else False else False else False else bif decide (4<(↑n:Int))then R eu (pN cs)else R eu (pN cs)else
 False else False else False else False else False else False else False else R eu (pN cs)else False else False else False else False else False else
 False else False else R eu (pN cs)else False else False else False else False else False else False else False else R eu (pN cs)else False else
 False else False else False else False else False else bif decide (1<(↑n:Int))then bif true&&decide (1<(↑n:Int))then bif Nat.ble 8 cs.length then bif
 ae u8 (cs.getD 4 (.bool false))then bif ae u8 (cs.getD 5 (.bool false))then bif ae u8 (cs.getD 6 (.bool false))then bif
 al (cs.getD 7 (.bool false))then bif u8B (fg cs)&&u8B (ff cs)then bif usB (f8 cs) (fg cs) (ff cs) (f7 cs)then bif true&&
 decide (1<(↑n:Int))then bif Nat.ble 8 cs.length then bif ae u8 (cs.getD 4 (.bool false))then bif ae u8 (cs.getD 5 (.bool false))
 then bif ae u8 (cs.getD 6 (.bool false))then bif al (cs.getD 7 (.bool false))then bif decide (2<(↑n:Int))then bif true&&decide (2<
 (↑n:Int))then bif Nat.ble 12 cs.length then bif ae u8 (cS cs)then bif ae u8 (cs.getD 9 (.bool false))then bif ae u8
 (cs.getD 10 (.bool false))then bif al (cT cs)then bif u8B (dE cs)&&u8B (dH cs)then bif usB (af (cS cs)) (dE cs) (dH cs)
 (ac (cT cs))then bif true&&decide (2<(↑n:Int))then bif Nat.ble 12 cs.length then bif ae u8 (cS cs)then bif ae u8
 (cs.getD 9 (.bool false))then bif ae u8 (cs.getD 10 (.bool false))then bif al (cT cs)then bif decide (3<(↑n:Int))then bif true&&
 decide (3<(↑n:Int))then bif Nat.ble 16 cs.length then bif ae u8 (bA cs)then bif ae u8 (dy cs)then bif ae u8
 (dx cs)then bif al (bz cs)then bif u8B (dh cs)&&u8B (dg cs)then bif usB (af (bA cs)) (dh cs) (dg cs) (ac (bz cs))
 then bif true&&decide (3<(↑n:Int))then bif Nat.ble 16 cs.length then bif ae u8 (bA cs)then bif ae u8 (dy cs)then bif
 ae u8 (dx cs)then bif al (bz cs)then bif decide (4<(↑n:Int))then R (.slice 5 0 3 false 0 0) (zba_10 cs)else R (.slice 5 0 3
 false 0 0) (zba_10 cs)else False else False else False else False else False else False else bif decide (4<(↑n:Int))then R dD (zba_4 cs)else R dD
 (zba_4 cs)else False else False else False else False else False else False else False else R dD (zba_4 cs)else False else False else False else False else
 False else False else bif decide (3<(↑n:Int))then bif true&&decide (3<(↑n:Int))then bif Nat.ble 16 cs.length then bif ae u8 (bA cs)
 then bif ae u8 (dy cs)then bif ae u8 (dx cs)then bif al (bz cs)then bif u8B (dh cs)&&u8B (dg cs)then bif usB
 (af (bA cs)) (dh cs) (dg cs) (ac (bz cs))then bif true&&decide (3<(↑n:Int))then bif Nat.ble 16 cs.length then bif ae u8
 (bA cs)then bif ae u8 (dy cs)then bif ae u8 (dx cs)then bif al (bz cs)then bif decide (4<(↑n:Int))then R
 dD (zba_18 cs)else R dD (zba_18 cs)else False else False else False else False else False else False else bif decide (4<(↑n:Int))then R eu
 (zba_8 cs)else R eu (zba_8 cs)else False else False else False else False else False else False else False else R eu (zba_8 cs)else False else False
 else False else False else False else False else False else R eu (zba_8 cs)else False else False else False else False else False else False else bif decide
 (2<(↑n:Int))then bif true&&decide (2<(↑n:Int))then bif Nat.ble 12 cs.length then bif ae u8 (cS cs)then bif ae u8
 (cs.getD 9 (.bool false))then bif ae u8 (cs.getD 10 (.bool false))then bif al (cT cs)then bif u8B (dE cs)&&u8B (dH cs)then
 bif usB (af (cS cs)) (dE cs) (dH cs) (ac (cT cs))then bif true&&decide (2<(↑n:Int))then bif Nat.ble 12 cs.length then bif ae
 u8 (cS cs)then bif ae u8 (cs.getD 9 (.bool false))then bif ae u8 (cs.getD 10 (.bool false))then bif al (cT cs)
 then bif decide (3<(↑n:Int))then bif true&&decide (3<(↑n:Int))then bif Nat.ble 16 cs.length then bif ae u8 (bA cs)then bif ae
 u8 (dy cs)then bif ae u8 (dx cs)then bif al (bz cs)then bif u8B (dh cs)&&u8B (dg cs)then bif usB (af (bA
 cs)) (dh cs) (dg cs) (ac (bz cs))then bif true&&decide (3<(↑n:Int))then bif Nat.ble 16 cs.length then bif ae u8 (bA cs)
 then bif ae u8 (dy cs)then bif ae u8 (dx cs)then bif al (bz cs)then bif decide (4<(↑n:Int))then R dD (zba_19
 cs)else R dD (zba_19 cs)else False else False else False else False else False else False else bif decide (4<(↑n:Int))then R eu (rl cs)else R
 eu (rl cs)else False else False else False else False else False else False else False else R eu (rl cs)else False else False else False else
 False else False else False else bif decide (3<(↑n:Int))then bif true&&decide (3<(↑n:Int))then bif Nat.ble 16 cs.length then bif ae u8
 (bA cs)then bif ae u8 (dy cs)then bif ae u8 (dx cs)then bif al (bz cs)then bif u8B (dh cs)&&u8B (dg cs)
 then bif usB (af (bA cs)) (dh cs) (dg cs) (ac (bz cs))then bif true&&decide (3<(↑n:Int))then bif Nat.ble 16 cs.length then bif
 ae u8 (bA cs)then bif ae u8 (dy cs)then bif ae u8 (dx cs)then bif al (bz cs)then bif decide (4<(↑n
 :Int))then R eu [.dead,.row [.int u8 (af (bA cs)),.int u8 (dh cs),.int u8 (dg cs),.str (ac (bz
 cs))] 24 4]else R eu [.dead,.row [.int u8 (af (bA cs)),.int u8 (dh cs),.int u8 (dg cs),.str (ac
 (bz cs))] 24 4]else False else False else False else False else False else False else bif decide (4<(↑n:Int))then R .nilSlice []else R .nilSlice []
 else False else False else False else False else False else False else False else R .nilSlice []else False else False else False else False else False else
 False else False else R .nilSlice []else False else False else False else False else False else False else False else R .nilSlice []else False else False
 else False else False else False else False else False else R .nilSlice []):=by kernel_rfl
def rusaT:List V→Option (List (Bool×(V×St)))
 |[.lst x n cs]=>some [((okT n cs&&(tlD cs).all inU)&&Nat.beq (bi (usaL cs)).length 0,(.nilSlice,[])),(okT n cs&&(tlD cs).all inU,(.slice 0 0 (bi (usaL cs)).length false 0 0,[.row (tls (bi (usaL cs))) 24 4]))]
 |_=>none
def rusO(q:List TL):V×St:=bif Nat.beq q.length 0 then(.nilSlice,[])else(.slice 0 0 q.length false 0 0,[.row (tls q) 24 4])
theorem fY(st:St):Fits 0 [V.nilSlice] [] [some V.nilSlice] st:=⟨[],[.nilSlice],rfl,rfl,FitsM.of trivial,by decide,fun i hi=>by omega⟩
theorem rusa_fits(x:Value)(l:List TL)(hl:l.length≤9223372036854775807)(hu:l.all inU=true):runM Tryz.prog RU0 9 10 20 [.lst x l.length (tls l)] (fun v st=>Fits 0 [(rusO (bi (l.take 4))).1] (rusO (bi (l.take 4))).2 [some v] (vis v st)):=by
 refine cast (rusa_tree x l.length (tls l) (fun v st=>Fits 0 [(rusO (bi (l.take 4))).1] (rusO (bi (l.take 4))).2 [some v] st)).symm ?_;unfold eu dD zba_19 zba_18 zba_17 rl zba_11 zba_10 zba_9 zba_8 pN zba_4 zba_3 zba_2 bz bA dg dx dh dy zba_1 zba_0 gP gQ f7 f8 f9 ga ff fg cS cT dE dH
 match l,hl,hu with
 |[],hl,hu=>
  have d0:decide ((0:Int)<(([]:List TL).length:Int))=false:=rfl;simp only[d0,ae,af,al,ac,decide_true,Bool.and_self,Bool.true_and,cond_true,cond_false];have tk:List.take 4 ([]:List TL)=[]:=rfl;rw[tk]
  (simp only[bi,cond_true,cond_false];first|exact fY _|exact cZ rfl rfl)
 |[a],hl,hu=>
  have d0:decide ((0:Int)<(([a]:List TL).length:Int))=true:=rfl;have b0:Nat.ble 4 (tls ([a]:List TL)).length=true:=rfl;have g00:(tls ([a]:List TL)).getD 0 (.bool false)=.int .u8 a.u:=rfl;have g01:(tls ([a]:List TL)).getD 1 (.bool false)=.int .u8 a.s:=rfl;have g02:(tls ([a]:List TL)).getD 2 (.bool false)=.int .u8 a.m:=rfl;have g03:(tls ([a]:List TL)).getD 3 (.bool false)=.str a.d:=rfl;have d1:decide ((1:Int)<(([a]:List TL).length:Int))=false:=rfl;simp only[List.all_cons,Bool.and_eq_true]at hu;have u0:(u8B a.s&&u8B a.m)=true:=hu.1;simp only[g00,g01,g02,g03,d0,b0,d1,u0,ae,af,al,ac,decide_true,Bool.and_self,Bool.true_and,cond_true,cond_false];have tk:List.take 4 ([a]:List TL)=[a]:=rfl;rw[tk];cases h0:usB a.u a.s a.m a.d<;>(simp only[bi,h0,cond_true,cond_false];first|exact fY _|exact cZ rfl rfl)
 |[a,b],hl,hu=>
  have d0:decide ((0:Int)<(([a,b]:List TL).length:Int))=true:=rfl;have b0:Nat.ble 4 (tls ([a,b]:List TL)).length=true:=rfl;have g00:(tls ([a,b]:List TL)).getD 0 (.bool false)=.int .u8 a.u:=rfl;have g01:(tls ([a,b]:List TL)).getD 1 (.bool false)=.int .u8 a.s:=rfl;have g02:(tls ([a,b]:List TL)).getD 2 (.bool false)=.int .u8 a.m:=rfl;have g03:(tls ([a,b]:List TL)).getD 3 (.bool false)=.str a.d:=rfl;have d1:decide ((1:Int)<(([a,b]:List TL).length:Int))=true:=rfl;have b1:Nat.ble 8 (tls ([a,b]:List TL)).length=true:=rfl;have g10:(tls ([a,b]:List TL)).getD 4 (.bool false)=.int .u8 b.u:=rfl;have g11:(tls ([a,b]:List TL)).getD 5 (.bool false)=.int .u8 b.s:=rfl;have g12:(tls ([a,b]:List TL)).getD 6 (.bool false)=.int .u8 b.m:=rfl;have g13:(tls ([a,b]:List TL)).getD 7 (.bool false)=.str b.d:=rfl;have d2:decide ((2:Int)<(([a,b]:List TL).length:Int))=false:=rfl;simp only[List.all_cons,Bool.and_eq_true]at hu;have u0:(u8B a.s&&u8B a.m)=true:=hu.1;have u1:(u8B b.s&&u8B b.m)=true:=hu.2.1;simp only[g00,g01,g02,g03,d0,b0,g10,g11,g12,g13,d1,b1,d2,u0,u1,ae,af,al,ac,decide_true,Bool.and_self,Bool.true_and,cond_true,cond_false];have tk:List.take 4 ([a,b]:List TL)=[a,b]:=rfl;rw[tk];cases h0:usB a.u a.s a.m a.d<;>cases h1:usB b.u b.s b.m b.d<;>(simp only[bi,h0,h1,cond_true,cond_false];first|exact fY _|exact cZ rfl rfl)
 |[a,b,c],hl,hu=>
  have d0:decide ((0:Int)<(([a,b,c]:List TL).length:Int))=true:=rfl;have b0:Nat.ble 4 (tls ([a,b,c]:List TL)).length=true:=rfl;have g00:(tls ([a,b,c]:List TL)).getD 0 (.bool false)=.int .u8 a.u:=rfl;have g01:(tls ([a,b,c]:List TL)).getD 1 (.bool false)=.int .u8 a.s:=rfl;have g02:(tls ([a,b,c]:List TL)).getD 2 (.bool false)=.int .u8 a.m:=rfl;have g03:(tls ([a,b,c]:List TL)).getD 3 (.bool false)=.str a.d:=rfl;have d1:decide ((1:Int)<(([a,b,c]:List TL).length:Int))=true:=rfl;have b1:Nat.ble 8 (tls ([a,b,c]:List TL)).length=true:=rfl;have g10:(tls ([a,b,c]:List TL)).getD 4 (.bool false)=.int .u8 b.u:=rfl;have g11:(tls ([a,b,c]:List TL)).getD 5 (.bool false)=.int .u8 b.s:=rfl;have g12:(tls ([a,b,c]:List TL)).getD 6 (.bool false)=.int .u8 b.m:=rfl;have g13:(tls ([a,b,c]:List TL)).getD 7 (.bool false)=.str b.d:=rfl;have d2:decide ((2:Int)<(([a,b,c]:List TL).length:Int))=true:=rfl;have b2:Nat.ble 12 (tls ([a,b,c]:List TL)).length=true:=rfl;have g20:(tls ([a,b,c]:List TL)).getD 8 (.bool false)=.int .u8 c.u:=rfl;have g21:(tls ([a,b,c]:List TL)).getD 9 (.bool false)=.int .u8 c.s:=rfl;have g22:(tls ([a,b,c]:List TL)).getD 10 (.bool false)=.int .u8 c.m:=rfl;have g23:(tls ([a,b,c]:List TL)).getD 11 (.bool false)=.str c.d:=rfl;have d3:decide ((3:Int)<(([a,b,c]:List TL).length:Int))=false:=rfl;simp only[List.all_cons,Bool.and_eq_true]at hu;have u0:(u8B a.s&&u8B a.m)=true:=hu.1;have u1:(u8B b.s&&u8B b.m)=true:=hu.2.1;have u2:(u8B c.s&&u8B c.m)=true:=hu.2.2.1;simp only[g00,g01,g02,g03,d0,b0,g10,g11,g12,g13,d1,b1,g20,g21,g22,g23,d2,b2,d3,u0,u1,u2,ae,af,al,ac,decide_true,Bool.and_self,Bool.true_and,cond_true,cond_false];have tk:List.take 4 ([a,b,c]:List TL)=[a,b,c]:=rfl;rw[tk];cases h0:usB a.u a.s a.m a.d<;>cases h1:usB b.u b.s b.m b.d<;>cases h2:usB c.u c.s c.m c.d<;>(simp only[bi,h0,h1,h2,cond_true,cond_false];first|exact fY _|exact cZ rfl rfl)
 |[a,b,c,d],hl,hu=>
  have d0:decide ((0:Int)<(([a,b,c,d]:List TL).length:Int))=true:=rfl;have b0:Nat.ble 4 (tls ([a,b,c,d]:List TL)).length=true:=rfl;have g00:(tls ([a,b,c,d]:List TL)).getD 0 (.bool false)=.int .u8 a.u:=rfl;have g01:(tls ([a,b,c,d]:List TL)).getD 1 (.bool false)=.int .u8 a.s:=rfl;have g02:(tls ([a,b,c,d]:List TL)).getD 2 (.bool false)=.int .u8 a.m:=rfl;have g03:(tls ([a,b,c,d]:List TL)).getD 3 (.bool false)=.str a.d:=rfl;have d1:decide ((1:Int)<(([a,b,c,d]:List TL).length:Int))=true:=rfl;have b1:Nat.ble 8 (tls ([a,b,c,d]:List TL)).length=true:=rfl;have g10:(tls ([a,b,c,d]:List TL)).getD 4 (.bool false)=.int .u8 b.u:=rfl;have g11:(tls ([a,b,c,d]:List TL)).getD 5 (.bool false)=.int .u8 b.s:=rfl;have g12:(tls ([a,b,c,d]:List TL)).getD 6 (.bool false)=.int .u8 b.m:=rfl;have g13:(tls ([a,b,c,d]:List TL)).getD 7 (.bool false)=.str b.d:=rfl;have d2:decide ((2:Int)<(([a,b,c,d]:List TL).length:Int))=true:=rfl;have b2:Nat.ble 12 (tls ([a,b,c,d]:List TL)).length=true:=rfl;have g20:(tls ([a,b,c,d]:List TL)).getD 8 (.bool false)=.int .u8 c.u:=rfl;have g21:(tls ([a,b,c,d]:List TL)).getD 9 (.bool false)=.int .u8 c.s:=rfl;have g22:(tls ([a,b,c,d]:List TL)).getD 10 (.bool false)=.int .u8 c.m:=rfl;have g23:(tls ([a,b,c,d]:List TL)).getD 11 (.bool false)=.str c.d:=rfl;have d3:decide ((3:Int)<(([a,b,c,d]:List TL).length:Int))=true:=rfl;have b3:Nat.ble 16 (tls ([a,b,c,d]:List TL)).length=true:=rfl;have g30:(tls ([a,b,c,d]:List TL)).getD 12 (.bool false)=.int .u8 d.u:=rfl;have g31:(tls ([a,b,c,d]:List TL)).getD 13 (.bool false)=.int .u8 d.s:=rfl;have g32:(tls ([a,b,c,d]:List TL)).getD 14 (.bool false)=.int .u8 d.m:=rfl;have g33:(tls ([a,b,c,d]:List TL)).getD 15 (.bool false)=.str d.d:=rfl;simp only[List.all_cons,Bool.and_eq_true]at hu;have u0:(u8B a.s&&u8B a.m)=true:=hu.1;have u1:(u8B b.s&&u8B b.m)=true:=hu.2.1;have u2:(u8B c.s&&u8B c.m)=true:=hu.2.2.1;have u3:(u8B d.s&&u8B d.m)=true:=hu.2.2.2.1;simp only[g00,g01,g02,g03,d0,b0,g10,g11,g12,g13,d1,b1,g20,g21,g22,g23,d2,b2,g30,g31,g32,g33,d3,b3,u0,u1,u2,u3,ae,af,al,ac,decide_true,Bool.and_self,Bool.true_and,cond_true,cond_false];have tk:List.take 4 [a,b,c,d]=[a,b,c,d]:=rfl;rw[tk];generalize decide ((4:Int)<(([a,b,c,d]:List TL).length:Int))=d4;cases d4<;>cases h0:usB a.u a.s a.m a.d<;>cases h1:usB b.u b.s b.m b.d<;>cases h2:usB c.u c.s c.m c.d<;>cases h3:usB d.u d.s d.m d.d<;>(simp only[bi,h0,h1,h2,h3,cond_true,cond_false];first|exact fY _|exact cZ rfl rfl)
 |a::b::c::d::e::r,hl,hu=>
  have d0:decide ((0:Int)<((a::b::c::d::e::r:List TL).length:Int))=true:=decide_eq_true (by simp only[List.length_cons];omega);have b0:Nat.ble 4 (tls (a::b::c::d::e::r:List TL)).length=true:=Nat.ble_eq_true_of_le (by rw[dX];simp only[List.length_cons];omega);have g00:(tls (a::b::c::d::e::r:List TL)).getD 0 (.bool false)=.int .u8 a.u:=rfl;have g01:(tls (a::b::c::d::e::r:List TL)).getD 1 (.bool false)=.int .u8 a.s:=rfl;have g02:(tls (a::b::c::d::e::r:List TL)).getD 2 (.bool false)=.int .u8 a.m:=rfl;have g03:(tls (a::b::c::d::e::r:List TL)).getD 3 (.bool false)=.str a.d:=rfl;have d1:decide ((1:Int)<((a::b::c::d::e::r:List TL).length:Int))=true:=decide_eq_true (by simp only[List.length_cons];omega);have b1:Nat.ble 8 (tls (a::b::c::d::e::r:List TL)).length=true:=Nat.ble_eq_true_of_le (by rw[dX];simp only[List.length_cons];omega);have g10:(tls (a::b::c::d::e::r:List TL)).getD 4 (.bool false)=.int .u8 b.u:=rfl;have g11:(tls (a::b::c::d::e::r:List TL)).getD 5 (.bool false)=.int .u8 b.s:=rfl;have g12:(tls (a::b::c::d::e::r:List TL)).getD 6 (.bool false)=.int .u8 b.m:=rfl;have g13:(tls (a::b::c::d::e::r:List TL)).getD 7 (.bool false)=.str b.d:=rfl;have d2:decide ((2:Int)<((a::b::c::d::e::r:List TL).length:Int))=true:=decide_eq_true (by simp only[List.length_cons];omega);have b2:Nat.ble 12 (tls (a::b::c::d::e::r:List TL)).length=true:=Nat.ble_eq_true_of_le (by rw[dX];simp only[List.length_cons];omega);have g20:(tls (a::b::c::d::e::r:List TL)).getD 8 (.bool false)=.int .u8 c.u:=rfl;have g21:(tls (a::b::c::d::e::r:List TL)).getD 9 (.bool false)=.int .u8 c.s:=rfl;have g22:(tls (a::b::c::d::e::r:List TL)).getD 10 (.bool false)=.int .u8 c.m:=rfl;have g23:(tls (a::b::c::d::e::r:List TL)).getD 11 (.bool false)=.str c.d:=rfl;have d3:decide ((3:Int)<((a::b::c::d::e::r:List TL).length:Int))=true:=decide_eq_true (by simp only[List.length_cons];omega);have b3:Nat.ble 16 (tls (a::b::c::d::e::r:List TL)).length=true:=Nat.ble_eq_true_of_le (by rw[dX];simp only[List.length_cons];omega);have g30:(tls (a::b::c::d::e::r:List TL)).getD 12 (.bool false)=.int .u8 d.u:=rfl;have g31:(tls (a::b::c::d::e::r:List TL)).getD 13 (.bool false)=.int .u8 d.s:=rfl;have g32:(tls (a::b::c::d::e::r:List TL)).getD 14 (.bool false)=.int .u8 d.m:=rfl;have g33:(tls (a::b::c::d::e::r:List TL)).getD 15 (.bool false)=.str d.d:=rfl;simp only[List.all_cons,Bool.and_eq_true]at hu;have u0:(u8B a.s&&u8B a.m)=true:=hu.1;have u1:(u8B b.s&&u8B b.m)=true:=hu.2.1;have u2:(u8B c.s&&u8B c.m)=true:=hu.2.2.1;have u3:(u8B d.s&&u8B d.m)=true:=hu.2.2.2.1;simp only[g00,g01,g02,g03,d0,b0,g10,g11,g12,g13,d1,b1,g20,g21,g22,g23,d2,b2,g30,g31,g32,g33,d3,b3,u0,u1,u2,u3,ae,af,al,ac,decide_true,Bool.and_self,Bool.true_and,cond_true,cond_false];have tk:List.take 4 (a::b::c::d::e::r)=[a,b,c,d]:=rfl;rw[tk];generalize decide ((4:Int)<((a::b::c::d::e::r:List TL).length:Int))=d4;cases d4<;>cases h0:usB a.u a.s a.m a.d<;>cases h1:usB b.u b.s b.m b.d<;>cases h2:usB c.u c.s c.m c.d<;>cases h3:usB d.u d.s d.m d.d<;>(simp only[bi,h0,h1,h2,h3,cond_true,cond_false];first|exact fY _|exact cZ rfl rfl)
theorem rusa_ok(args:List V)(L:List (Bool×(V×St)))(o:V×St)(h:rusaT args=some L)(ho:az L=some o):FnSat Tryz.prog 20 args [] (Is o):=by
 unfold rusaT at h;split at h
 ·rename_i x n cs;cases h;cases hk:(okT n cs&&(tlD cs).all inU)with
  |false=>rw[hk]at ho;simp[az]at ho
  |true=>
  rw[hk,Bool.true_and]at ho;rw[Bool.and_eq_true]at hk;obtain⟨l,rfl,rfl,h1,h2⟩:=gh hk.1;have hu:l.all inU=true:=by have:=hk.2;rw[cN]at this;exact this
  have hq:usaL (tls l)=l.take 4:=by unfold usaL;rw[cN]
  rw[hq]at ho;have e:o=rusO (bi (l.take 4)):=by
   unfold rusO;cases hb:Nat.beq (bi (l.take 4)).length 0 with
   |true=>rw[hb]at ho;exact(Option.some.inj ho).symm
   |false=>rw[hb]at ho;exact(Option.some.inj ho).symm
  rw[e];exact visM_ok mixed RU0_ok (rusa_fits x l h1 hu)
 ·cases h
def mvOK(p:V)(st:St):Bool:=match bJ st p with
 |some (b,l)=>b&&Nat.ble l.length 9223372036854775807
 |none=>false
def mvV(u s m:Int)(d:List UInt8)(p:V)(h:List UInt8)(now:Int)(st:St):Bool:=match bJ st p with
 |some (_,l)=>matB u s m d l h now
 |none=>false
def matGV(OK:V→St→Bool)(MV:Int→Int→Int→List UInt8→V→List UInt8→Int→St→Bool):List V→St→Option (List (Bool×(V×St)))
 |[.agg [.int .u8 u,.int .u8 s,.int .u8 m,.str d],p,.str h,.int .i64 now],st=>some [(OK p st&&(u8B s&&u8B m),(.bool (MV u s m d p h now st),st))]
 |_,_=>none
theorem matGV_ok(args:List V)(s:St)(L:List (Bool×(V×St)))(o:V×St)(h:matGV mvOK mvV args s=some L)(ho:az L=some o):FnSat Tryz.prog 9 args s (Is o):=by
 unfold matGV at h;split at h
 ·rename_i u s1 m1 d p hh now;cases h;obtain⟨hk,rfl⟩:=aJ ho;rw[Bool.and_eq_true]at hk;obtain⟨hb,hu⟩:=hk;unfold mvOK at hb;split at hb
  ·rename_i b l hv;rw[Bool.and_eq_true]at hb;obtain⟨rfl,h1⟩:=hb;have hL:mvV u s1 m1 d p hh now s=matB u s1 m1 d l hh now:=by unfold mvV;rw[hv]
   rw[hL];refine cE rfl fun B W0 w m rargs hr ha=>?_;obtain⟨a,r1,q1,q2,rfl⟩:=aj ha;obtain⟨a2,r2,q3,q4,rfl⟩:=aj q2;have e2:=eV hr hv q3;have h1:=Nat.le_of_ble_eq_true h1;have q5:@real _ (Frz.of w) [] (.agg [.int .u8 u,.int .u8 s1,.int .u8 m1,.str d])=some a:=q1;have:=@mat_ok (Frz.of w) [.agg [.int .u8 u,.int .u8 s1,.int .u8 m1,.str d],lstS a2 l,.str hh,.int .i64 now] _ (.bool (matB u s1 m1 d l hh now),[]) (by unfold lstS matT;rfl) (by
    rw[ip h1,ao,hu];rfl)
   exact⟨[.agg [.int .u8 u,.int .u8 s1,.int .u8 m1,.str d],lstS a2 l,.str hh,.int .i64 now],@aH _ (Frz.of w) [] _ _ _ _ q5 (@aH _ (Frz.of w) [] _ _ _ _ e2 q4),this⟩
  ·cases hb
 ·cases h
noncomputable def RN0:Tab:=⟨addT noT 10 rmatQ,noL,aL 9⟩
theorem RN0_ok:TabOk3 Tryz.prog RN0:=⟨aE aA rmatQ_ok,aB,ak 9⟩
theorem ran_round(p:Value)(k:Nat)(ds:List V)(h:List UInt8)(now:Int)(n:Nat)(cs:List V)(i:Int)(R:Exit→List (Option V)→St→Prop):ah Tryz.prog RN0 9 10 (ad 9) 12 58 [1,2,3,8,9,10] [.lst p k ds,.str h,.int .i64 now,.bool false,.slice 0 0 n false 0 0,.int .i64 i] [.row cs 24 4] R=
  (
 bif decide (i<(↑n:Int))then bif decide (0≤i)&&decide (i<(↑n:Int))then bif (0+i.toNat*4+4).ble cs.length then bif ae u8 (cs.getD (0+
 i.toNat*4+0) (.bool false))then bif ae u8 (cs.getD (0+i.toNat*4+1) (.bool false))then bif ae u8 (cs.getD (0+i.toNat*4+2)
 (.bool false))then bif al (cs.getD (0+i.toNat*4+3) (.bool false))then bif okLL k ds&&au h&&(u8B (af (cs.getD (0+i.toNat*4+1) (.bool
 false)))&&u8B (af (cs.getD (0+i.toNat*4+2) (.bool false))))then bif matB (af (cs.getD (0+i.toNat*4+0) (.bool false))) (af (cs.getD (0+
 i.toNat*4+1) (.bool false))) (af (cs.getD (0+i.toNat*4+2) (.bool false))) (ac (cs.getD (0+i.toNat*4+3) (.bool false))) (List.map ac ds) h
 now then R .ret [some (.lst p k ds),some (.str h),some (.int i64 now),some (.bool true),some (.slice 0 0 n false 0 0),some (.int i64 i)]
 [.row cs 24 4]else R .normal [some (.lst p k ds),some (.str h),some (.int i64 now),some (.bool false),some (.slice 0 0 n false 0 0),some (.int
 i64 (i64.wrap (i+1)))] [.row cs 24 4]else False else False else False else False else False else False else False else R (.exit 0) [some (.lst
 p k ds),some (.str h),some (.int i64 now),some (.bool false),some (.slice 0 0 n false 0 0),some (.int i64 i)] [.row cs 24 4]):=by kernel_rfl
structure RAX where
 p:Value
 k:Nat
 ds:List V
 h:List UInt8
 now:Int
 n:Nat
 cs:List V
 i:Nat
def raxV(y:RAX):List V:=[.lst y.p y.k y.ds,.str y.h,.int .i64 y.now,.bool false,.slice 0 0 y.n false 0 0,.int .i64 y.i]
def raxJ(y:RAX):St:=[.row y.cs 24 4]
def kf(y:RAX):Bool:=okT y.n y.cs&&((okLL y.k y.ds&&au y.h)&&((tlD y.cs).all inU&&Nat.ble y.i y.n))
def raxMu(y:RAX):Nat:=y.n-y.i
def raxDec:List (Option V)→St→Option RAX
 |[some (.lst p k ds),some (.str h),some (.int .i64 now),some (.bool false),some (.slice b 0 n false 0 0),some (.int .i64 0)],st=>match st[b]? with
  |some (.row cs _ _)=>some ⟨p,k,ds,h,now,n,cs,0⟩
  |_=>none
 |_,_=>none
def nv(p:Value)(k:Nat)(ds:List V)(h:List UInt8)(now:Int)(n:Nat)(b:Bool)(K:Exit→List V→St→Prop):Prop:=
 bif b then ∀i:Int,K .ret [.lst p k ds,.str h,.int .i64 now,.bool true,.slice 0 0 n false 0 0,.int .i64 i] [.dead]else ∀i:Int,K (.exit 0) [.lst p k ds,.str h,.int .i64 now,.bool false,.slice 0 0 n false 0 0,.int .i64 i] [.dead]
def anyR(cs ds:List V)(h:List UInt8)(now:Int)(i:Nat):Bool:=anyC ((tlD cs).drop i) (ds.map ac) h now
def raxOut:Asks RAX:=fun y K=>nv y.p y.k y.ds y.h y.now y.n (anyR y.cs y.ds y.h y.now y.i) K
theorem rax_fits(p:Value)(k:Nat)(ds:List V)(h:List UInt8)(now:Int)(b:Bool)(n:Nat){cs:List V}(hf:aC cs=true)(i:Int){c:Nat}{st:St}(g:st[c]?=some (.row cs 24 4)):Fits 0 [.lst p k ds,.str h,.int .i64 now,.bool b,.slice 0 0 n false 0 0,.int .i64 i] [.row cs 24 4] [some (.lst p k ds),some (.str h),some (.int .i64 now),some (.bool b),some (.slice c 0 n false 0 0),some (.int .i64 i)] st:=
 ⟨[c],[.lst p k ds,.str h,.int .i64 now,.bool b,.slice c 0 n false 0 0,.int .i64 i],rfl,rfl,FitsM.of ⟨fb hf g,trivial⟩,by simp,fun i hi=>by omega⟩
theorem rax_out(p:Value)(k:Nat)(ds:List V)(h:List UInt8)(now:Int)(b:Bool)(n:Nat)(i:Int)(st:St):Fits 0 [.lst p k ds,.str h,.int .i64 now,.bool b,.slice 0 0 n false 0 0,.int .i64 i] [.dead] [some (.lst p k ds),some (.str h),some (.int .i64 now),some (.bool b),some (.slice 0 0 n false 0 0),some (.int .i64 i)] st:=
 ⟨[0],[.lst p k ds,.str h,.int .i64 now,.bool b,.slice 0 0 n false 0 0,.int .i64 i],rfl,rfl,FitsM.of ⟨.inl rfl,trivial⟩,by decide,fun i hi=>by omega⟩
theorem rax_roundOk(y:RAX)(hx:kf y=true):ah Tryz.prog RN0 9 10 (ad 9) 12 58 [1,2,3,8,9,10] (raxV y) (raxJ y) (ay 0 kf raxV raxJ raxMu raxOut y):=by
 obtain⟨p,k,ds,h,now,n,cs,i⟩:=y;unfold kf at hx;simp only[Bool.and_eq_true]at hx;have hx1:okT n cs=true:=hx.1;have hx2:okLL k ds=true:=hx.2.1.1;have hx4:au h=true:=hx.2.1.2;have hx3:(tlD cs).all inU=true:=hx.2.2.1;have p1:i≤n:=Nat.le_of_ble_eq_true hx.2.2.2;obtain⟨l,rfl,rfl,p2,p3⟩:=gh hx1;rw[p3]at hx3;show ah Tryz.prog RN0 9 10 (ad 9) 12 58 [1,2,3,8,9,10] [.lst p k ds,.str h,.int .i64 now,.bool false,.slice 0 0 l.length false 0 0,.int .i64 i] [.row (tls l) 24 4] _;rw[ran_round];have out:∀K,raxOut ⟨p,k,ds,h,now,l.length,tls l,i⟩ K→nv p k ds h now l.length (anyC (l.drop i) (ds.map ac) h now) K:=fun K hK=>by
  have hK:nv p k ds h now l.length (anyC ((tlD (tls l)).drop i) (ds.map ac) h now) K:=hK;rw[p3]at hK;exact hK
 cases hd:l.drop i with
 |nil=>
  have hi:=bR hd p1;rw[decide_eq_false (show ¬((i:Int)<(l.length:Int)) by omega),cond_false];refine⟨_,_,fun K hK=>?_,rax_out p k ds h now false l.length i _⟩;have hK:=out K hK;rw[hd]at hK;exact hK i
 |cons c r=>
  obtain⟨e1,e2,e3⟩:=bh hd;have get:∀j,j<4→(tls l).getD (i*4+j) (.bool false)=c.cells.getD j (.bool false):=fun j hj=>by
   obtain⟨t1,t2⟩:=tls_at hd hj;rw[List.getD_eq_getElem?_getD,List.getD_eq_getElem?_getD,Nat.mul_comm,t1]
  have g0:(tls l).getD (i*4+0) (.bool false)=.int .u8 c.u:=get 0 (by omega);have g1:(tls l).getD (i*4+1) (.bool false)=.int .u8 c.s:=get 1 (by omega);have g2:(tls l).getD (i*4+2) (.bool false)=.int .u8 c.m:=get 2 (by omega);have g3:(tls l).getD (i*4+3) (.bool false)=.str c.d:=get 3 (by omega);have hc:inU c=true:=List.all_eq_true.1 hx3 c (List.mem_of_mem_drop (by rw[hd];simp));have hc:(u8B c.s&&u8B c.m)=true:=hc;have d1:decide ((i:Int)<(l.length:Int))=true:=decide_eq_true (by omega);have d2:decide ((0:Int)≤(i:Int))=true:=decide_eq_true (by omega);have l4:(i*4+4).ble (tls l).length=true:=Nat.ble_eq_true_of_le (by rw[dX];omega);have w2:i64.wrap ((i:Int)+1)=((i+1:Nat):Int):=by rw[IntWalk.i64_in _ ⟨by omega,by omega⟩];omega
  have z0:0+i*4=i*4:=by omega
  simp only[d1,d2,Int.toNat_natCast,z0,l4,g0,g1,g2,g3,al,ac,ae,af,decide_true,w2,hx2,hx4,hc,Bool.and_self,cond_true];have next:anyC (c::r) (ds.map ac) h now=(matB c.u c.s c.m c.d (ds.map ac) h now||anyC r (ds.map ac) h now):=rfl
  refine ab (fun e=>?_) (fun e=>?_)
  ·refine⟨_,_,fun K hK=>?_,rax_out p k ds h now true l.length i _⟩;have hK:=out K hK;rw[hd,next,e]at hK;exact hK i
  ·refine⟨⟨p,k,ds,h,now,l.length,tls l,i+1⟩,?_,rax_fits p k ds h now false l.length (kO l) _ rfl,by simp only[raxMu];omega,fun K hK=>?_⟩
   ·unfold kf;simp only[Bool.and_eq_true];exact⟨hx1,⟨hx2,hx4⟩,by rw[p3];exact hx3,Nat.ble_eq_true_of_le (show i+1≤l.length by omega)⟩
   ·have hK:=out K hK;rw[hd,next,e,Bool.false_or]at hK;show nv p k ds h now l.length (anyC ((tlD (tls l)).drop (i+1)) (ds.map ac) h now) K;rw[p3,e2];exact hK
noncomputable def lkRAX:Nat→Trans→Trans:=fU 58 (isSl 9) (br 0 (szOf Tryz.prog 12) [1,2,3,8,9,10] raxDec kf raxV raxJ raxOut) (ad 9)
theorem lkRAX_ok:aD Tryz.prog 0 lkRAX 12:=by
 unfold lkRAX;exact pa (aP 9 0 12) (by kernel_rfl) fun f st Q h=>aU (P:=Tryz.prog) (T:=RN0) (k:=0) (lim:=9) (n:=10) (g:=12) (p0:=58) (lk:=ad 9) mixed RN0_ok (aS 9 _ _) raxMu rax_roundOk h
noncomputable def RN1:Tab:=⟨addT noT 20 rusaT,noL,cn (aL 9) 12 0 lkRAX⟩
theorem RN1_ok:TabOk3 Tryz.prog RN1:=⟨aE aA rusa_ok,aB,bc (ak 9) lkRAX_ok⟩
theorem ran_tree(x:Value)(n:Nat)(cs:List V)(p:Value)(k:Nat)(ds:List V)(h:List UInt8)(now:Int)(R:V→Prop):runW Tryz.prog RN1 9 10 12 [.lst x n cs,.lst p k ds,.str h,.int .i64 now] R=
  (
 bif okT n cs&&(tlD cs).all inU&&(bi (usaL cs)).length.beq 0 then R (.bool false)else bif okT n cs&&(tlD cs).all inU then Fits 0 [.lst p k ds,.str h,.int
 i64 now,.bool false,.slice 0 0 (bi (usaL cs)).length false 0 0,.int i64 0] [.row (tls (bi (usaL cs))) 24 4] [some (.lst p k ds),some
 (.str h),some (.int i64 now),some (.bool false),some (.slice 0 0 (bi (usaL cs)).length false 0 0),some (.int i64 0)] [.row (tls (bi
 (usaL cs))) 24 4]∧bif kf {p:=p,k:=k,ds:=ds,h:=h,now:=now,n:=(bi (usaL cs)).length,cs:=tls (bi (usaL cs)),i:=0}then bif anyR (tls
 (bi (usaL cs))) ds h now 0 then ∀(i:Int),R (.bool true)else ∀(i:Int),R (.bool false)else False else False):=by kernel_rfl
def ranyT:List V→Option (List (Bool×(V×St)))
 |[.lst _ n cs,.lst _ k ds,.str h,.int .i64 now]=>some [(okT n cs&&((okLL k ds&&au h)&&(tlD cs).all inU),(.bool (anyC (bi (usaL cs)) (ds.map ac) h now),[]))]
 |_=>none
theorem ranyT_ok(args:List V)(L:List (Bool×(V×St)))(o:V×St)(h:ranyT args=some L)(ho:az L=some o):FnSat Tryz.prog 12 args [] (Is o):=by
 unfold ranyT at h;split at h
 ·rename_i x n cs p k ds hh now;cases h;obtain⟨hk,rfl⟩:=aJ ho;simp only[Bool.and_eq_true]at hk;obtain⟨h1,⟨h2,h2'⟩,h3⟩:=hk;refine ax (lim:=9) (n:=10) mixed RN1_ok rfl rfl ?_;rw[ran_tree,h1,h3,Bool.and_self,Bool.true_and];refine ab (fun hn=>?_) (fun _=>?_)
  ·have:bi (usaL cs)=[]:=List.eq_nil_of_length_eq_zero (Nat.eq_of_beq_eq_true hn);rw[this];rfl
  ·rw[cond_true];have hlen:(bi (usaL cs)).length≤4:=by
    have:=o7 (usaL cs);have h4:(usaL cs).length≤4:=by unfold usaL;rw[List.length_take];omega
    omega
   have hg:(bi (usaL cs)).all inU=true:=lC _ (take_all 4 h3);refine⟨rax_fits p k ds hh now false _ (kO _) 0 rfl,aa ?_ ?_⟩
   ·unfold kf;simp only[Bool.and_eq_true];exact⟨l7 (by omega),⟨h2,h2'⟩,by rw[cN];exact hg,Nat.ble_eq_true_of_le (Nat.zero_le _)⟩
   ·unfold anyR;rw[cN,List.drop_zero];cases anyC (bi (usaL cs)) (ds.map ac) hh now with
    |true=>intro i;rfl
    |false=>intro i;rfl
 ·cases h
theorem okLL_mk{l:List (List UInt8)}(h:l.length≤9223372036854775807)(ha:l.all au=true):okLL l.length (strs l)=true:=by
 unfold okLL iG;rw[ip h,ao,ha];rfl
def zOK(p q:V)(h:List UInt8)(st:St):Bool:=match fe st p,bJ st q with
 |some (b,l),some (c,r)=>b&&(c&&((l.all inU&&(r.all au&&au h))&&(Nat.ble l.length 9223372036854775807&&Nat.ble r.length 9223372036854775807)))
 |_,_=>false
def ranyGV(OK:V→V→List UInt8→St→Bool)(AV:V→V→List UInt8→Int→St→Bool):List V→St→Option (List (Bool×(V×St)))
 |[p,q,.str h,.int .i64 now],st=>some [(OK p q h st,(.bool (AV p q h now st),st))]
 |_,_=>none
theorem ranyGV_ok(args:List V)(s:St)(L:List (Bool×(V×St)))(o:V×St)(h:ranyGV zOK yV args s=some L)(ho:az L=some o):FnSat Tryz.prog 12 args s (Is o):=by
 unfold ranyGV at h;split at h
 ·rename_i p q hh now;cases h;obtain⟨hb,rfl⟩:=aJ ho;unfold zOK at hb;split at hb
  ·rename_i b l c r hv hw;have hL:yV p q hh now s=anyC (bi (l.take 4)) r hh now:=by unfold yV;rw[hv,hw]
   rw[hL];simp only[Bool.and_eq_true]at hb;obtain⟨rfl,rfl,⟨h1,h4,h5⟩,h2,h3⟩:=hb;refine cE rfl fun B W0 w m rargs hr ha=>?_;obtain⟨a,r1,q1,q2,rfl⟩:=aj ha;obtain⟨a2,r2,q3,q4,rfl⟩:=aj q2;have e1:=kL hr hv q1;have e2:=eV hr hw q3;have h2:=Nat.le_of_ble_eq_true h2;have h3:=Nat.le_of_ble_eq_true h3;have:=@ranyT_ok (Frz.of w) [lstT a l,lstS a2 r,.str hh,.int .i64 now] _ (.bool (anyC (bi (l.take 4)) r hh now),[]) (by unfold lstT lstS ranyT;rfl) (by
    rw[l7 h2,okLL_mk h3 h4,cN,h1,ao,h5];unfold usaL;rw[cN];rfl)
   exact⟨[lstT a l,lstS a2 r,.str hh,.int .i64 now],@aH _ (Frz.of w) [] _ _ _ _ e1 (@aH _ (Frz.of w) [] _ _ _ _ e2 q4),this⟩
  ·cases hb
 ·cases h
def zmOK(p:V)(h:List UInt8)(st:St):Bool:=match bJ st p with
 |some (b,l)=>b&&(Nat.ble l.length 9223372036854775807&&(l.all au&&au h))
 |none=>false
def rmatGV(OK:V→List UInt8→St→Bool)(MV:Int→Int→Int→List UInt8→V→List UInt8→Int→St→Bool):List V→St→Option (List (Bool×(V×St)))
 |[.agg [.int .u8 u,.int .u8 s,.int .u8 m,.str d],p,.str h,.int .i64 now],st=>some [(OK p h st&&(u8B s&&u8B m),(.bool (MV u s m d p h now st),st))]
 |_,_=>none
theorem rmatGV_ok(args:List V)(s:St)(L:List (Bool×(V×St)))(o:V×St)(h:rmatGV zmOK mvV args s=some L)(ho:az L=some o):FnSat Tryz.prog 10 args s (Is o):=by
 unfold rmatGV at h;split at h
 ·rename_i u s1 m1 d p hh now;cases h;obtain⟨hk,rfl⟩:=aJ ho;rw[Bool.and_eq_true]at hk;obtain⟨hb,hu⟩:=hk;unfold zmOK at hb;split at hb
  ·rename_i b l hv;simp only[Bool.and_eq_true]at hb;obtain⟨rfl,h1,h4,h5⟩:=hb;have hL:mvV u s1 m1 d p hh now s=matB u s1 m1 d l hh now:=by unfold mvV;rw[hv]
   rw[hL];refine cE rfl fun B W0 w m rargs hr ha=>?_;obtain⟨a,r1,q1,q2,rfl⟩:=aj ha;obtain⟨a2,r2,q3,q4,rfl⟩:=aj q2;have e2:=eV hr hv q3;have h1:=Nat.le_of_ble_eq_true h1;have q5:@real _ (Frz.of w) [] (.agg [.int .u8 u,.int .u8 s1,.int .u8 m1,.str d])=some a:=q1;have:=@rmatQ_ok (Frz.of w) [.agg [.int .u8 u,.int .u8 s1,.int .u8 m1,.str d],lstS a2 l,.str hh,.int .i64 now] _ (.bool (matB u s1 m1 d l hh now),[]) (by unfold lstS rmatQ;rfl) (by
    rw[okLL_mk h1 h4,ao,hu,h5];rfl)
   exact⟨[.agg [.int .u8 u,.int .u8 s1,.int .u8 m1,.str d],lstS a2 l,.str hh,.int .i64 now],@aH _ (Frz.of w) [] _ _ _ _ q5 (@aH _ (Frz.of w) [] _ _ _ _ e2 q4),this⟩
  ·cases hb
 ·cases h
noncomputable def LG0:Tab:=⟨noT,noL,aL 9⟩
theorem LG0_ok:TabOk3 Tryz.prog LG0:=⟨aA,aB,ak 9⟩
theorem jz(vs:List V)(h:aC vs=true)(l:List (Option V))(hl:l=vs.map some)(st:St):Fits 0 vs [] l st:=⟨[],vs,hl,ar vs h,FitsM.of trivial,by simp,fun i hi=>by omega⟩
theorem l1_round(x y:Value)(n m:Nat)(cs ds:List V)(a i:Int)(R:Exit→List (Option V)→St→Prop):ah Tryz.prog LG0 9 10 (ad 9) 7 58 [0,1,4,5,6] [.lst x n cs,.lst y m ds,.bool false,.int .i64 a,.int .i64 i] [] R=
  (
 bif decide (i<(↑n:Int))then bif decide (a<9000)then bif decide (0≤i)&&decide (i<(↑n:Int))then bif (i.toNat*1).blt cs.length then bif al (cs.getD
 (i.toNat*1) (.bool false))then R .normal [some (.lst x n cs),some (.lst y m ds),some (.bool false),some (.int i64 (i64.wrap
 (i64.wrap (a+10)+if(↑(ac (cs.getD (i.toNat*1) (.bool false))).length:Int)<9000 then(↑(ac (cs.getD (i.toNat*1) (.bool false))).length:
 Int)else 9000))),some (.int i64 (i64.wrap (i+1)))] []else False else False else False else R (.exit 0) [some (.lst x n cs),some (.lst y m
 ds),some (.bool false),some (.int i64 a),some (.int i64 i)] []else R (.exit 0) [some (.lst x n cs),some (.lst y m ds),some (.bool false),
 some (.int i64 a),some (.int i64 i)] []):=by kernel_rfl
theorem l2_round(x y:Value)(n m:Nat)(cs ds:List V)(a i:Int)(R:Exit→List (Option V)→St→Prop):ah Tryz.prog LG0 9 10 (ad 9) 7 122 [1,4,5,7] [.lst y m ds,.bool false,.int .i64 a,.int .i64 i] [] R=
  (
 bif decide (i<(↑m:Int))then bif decide (a<9000)then bif decide (0≤i)&&decide (i<(↑m:Int))then bif (i.toNat*4+3).blt ds.length then bif al
 (ds.getD (i.toNat*4+3) (.bool false))then R .normal [some (.lst y m ds),some (.bool false),some (.int i64 (i64.wrap (i64.wrap (a+
 10)+if(↑(ac (ds.getD (i.toNat*4+3) (.bool false))).length:Int)<9000 then(↑(ac (ds.getD (i.toNat*4+3) (.bool false))).length:Int)else 9000))),
 some (.int i64 (i64.wrap (i+1)))] []else False else False else False else R (.exit 2) [some (.lst y m ds),some (.bool false),some (.int
 i64 a),some (.int i64 i)] []else R (.exit 2) [some (.lst y m ds),some (.bool false),some (.int i64 a),some (.int i64 i)] []):=by kernel_rfl
def l1N:Nat→List (List UInt8)→Nat
 |n,[]=>n
 |n,s::r=>if n<9000 then l1N (n+10+min 9000 s.length) r else n
def l2N:Nat→List TL→Nat
 |n,[]=>n
 |n,s::r=>if n<9000 then l2N (n+10+min 9000 s.d.length) r else n
theorem l1N_le:∀(l:List (List UInt8)) (n:Nat),n≤20000→l1N n l≤20000
 |[],n,h=>h
 |s::r,n,h=>by
  unfold l1N;split
  ·exact l1N_le r _ (by omega)
  ·exact h
structure L1 where
 x:Value
 y:Value
 n:Nat
 m:Nat
 cs:List V
 ds:List V
 a:Nat
 i:Nat
def l1V(q:L1):List V:=[.lst q.x q.n q.cs,.lst q.y q.m q.ds,.bool false,.int .i64 q.a,.int .i64 q.i]
def l1J(_:L1):St:=[]
def lu(q:L1):Bool:=okS q.n q.cs&&(Nat.ble q.i q.n&&Nat.ble q.a 20000)
def l1Mu(q:L1):Nat:=q.n-q.i
def l1Dec:List (Option V)→St→Option L1
 |[some (.lst x n cs),some (.lst y m ds),some (.bool false),some (.int .i64 a),some (.int .i64 0)],_=>some ⟨x,y,n,m,cs,ds,a.toNat,0⟩
 |_,_=>none
def l1S(a:Nat)(cs:List V):Nat:=l1N a (cs.map ac)
def sv(x y:Value)(n m:Nat)(cs ds:List V)(a:Nat)(K:Exit→List V→St→Prop):Prop:=∀j:Nat,K (.exit 0) [.lst x n cs,.lst y m ds,.bool false,.int .i64 a,.int .i64 j] []
def l1Out:Asks L1:=fun q K=>sv q.x q.y q.n q.m q.cs q.ds (l1S q.a (q.cs.drop q.i)) K
theorem l1_roundOk(q:L1)(hx:lu q=true):ah Tryz.prog LG0 9 10 (ad 9) 7 58 [0,1,4,5,6] (l1V q) (l1J q) (ay 0 lu l1V l1J l1Mu l1Out q):=by
 obtain⟨x,y,n,m,cs,ds,a,i⟩:=q;unfold lu at hx;simp only[Bool.and_eq_true]at hx;have hx1:okS n cs=true:=hx.1;have p1:i≤n:=Nat.le_of_ble_eq_true hx.2.1;have p0:a≤20000:=Nat.le_of_ble_eq_true hx.2.2;obtain⟨l,rfl,rfl,p2,p3⟩:=c9 hx1;show ah Tryz.prog LG0 9 10 (ad 9) 7 58 [0,1,4,5,6] [.lst x l.length (strs l),.lst y m ds,.bool false,.int .i64 a,.int .i64 i] [] _;rw[l1_round];have ha:∀b j,l1S b ((strs l).drop j)=l1N b (l.drop j):=fun b j=>by
  unfold l1S;rw[List.map_drop,ao]
 have out:∀K,l1Out ⟨x,y,l.length,m,strs l,ds,a,i⟩ K→sv x y l.length m (strs l) ds (l1N a (l.drop i)) K:=fun K hK=>by
  have hK:sv x y l.length m (strs l) ds (l1S a ((strs l).drop i)) K:=hK;rw[ha]at hK;exact hK
 have fin:l1N a (l.drop i)=a→ay 0 lu l1V l1J l1Mu l1Out ⟨x,y,l.length,m,strs l,ds,a,i⟩ (.exit 0) [some (.lst x l.length (strs l)),some (.lst y m ds),some (.bool false),some (.int .i64 a),some (.int .i64 i)] []:=fun h=>by
  refine⟨[.lst x l.length (strs l),.lst y m ds,.bool false,.int .i64 a,.int .i64 i],_,fun K hK=>?_,jz _ rfl _ rfl _⟩;have hK:=out K hK;rw[h]at hK;exact hK i
 cases hd:l.drop i with
 |nil=>
  have hi:=bR hd p1;rw[decide_eq_false (show ¬((i:Int)<(l.length:Int)) by omega),cond_false];exact fin (by rw[hd];rfl)
 |cons c r=>
  obtain⟨e1,e2,e3⟩:=bh hd;obtain⟨e4,e5⟩:=gH hd;rw[decide_eq_true (show((i:Int)<(l.length:Int)) by omega),cond_true];refine ab (fun h=>?_) (fun h=>?_)
  ·have h:=of_decide_eq_true h;have q1:decide ((i:Int)<(l.length:Int))=true:=decide_eq_true (by omega);have q2:decide ((0:Int)≤(i:Int))=true:=decide_eq_true (by omega);simp only[q1,q2,Int.toNat_natCast,e4,e5,al,ac,cond_true,Bool.and_true,show i64.wrap ((i:Int)+1)=((i+1:Nat):Int) by rw[IntWalk.i64_in _ ⟨by omega,by omega⟩];omega];have q3:i64.wrap (i64.wrap ((a:Int)+10)+if(c.length:Int)<9000 then(c.length:Int)else 9000)=((a+10+min 9000 c.length:Nat):Int):=by
    rw[IntWalk.i64_in ((a:Int)+10) ⟨by omega,by omega⟩];split
    ·rw[IntWalk.i64_in _ ⟨by omega,by omega⟩];omega
    ·rw[IntWalk.i64_in _ ⟨by omega,by omega⟩];omega
   rw[q3];refine⟨⟨x,y,l.length,m,strs l,ds,a+10+min 9000 c.length,i+1⟩,?_,jz _ rfl _ rfl _,by simp only[l1Mu];omega,fun K hK=>?_⟩
   ·unfold lu;simp only[Bool.and_eq_true];exact⟨hx1,Nat.ble_eq_true_of_le (show i+1≤l.length by omega),Nat.ble_eq_true_of_le (show a+10+min 9000 c.length≤20000 by omega)⟩
   ·have hK:=out K hK;show sv x y l.length m (strs l) ds (l1S (a+10+min 9000 c.length) ((strs l).drop (i+1))) K;rw[ha,e2];rw[hd,l1N,if_pos (by omega)]at hK;exact hK
  ·have h:=of_decide_eq_false h;exact fin (by rw[hd,l1N,if_neg (by omega)])
structure L2 where
 y:Value
 m:Nat
 ds:List V
 a:Nat
 i:Nat
def l2V(q:L2):List V:=[.lst q.y q.m q.ds,.bool false,.int .i64 q.a,.int .i64 q.i]
def l2J(_:L2):St:=[]
def lr(q:L2):Bool:=okT q.m q.ds&&(Nat.ble q.i q.m&&Nat.ble q.a 40000)
def l2Mu(q:L2):Nat:=q.m-q.i
def l2Dec:List (Option V)→St→Option L2
 |[some (.lst y m ds),some (.bool false),some (.int .i64 a),some (.int .i64 0)],_=>some ⟨y,m,ds,a.toNat,0⟩
 |_,_=>none
def l2S(a:Nat)(ds:List V)(i:Nat):Nat:=l2N a ((tlD ds).drop i)
def su(y:Value)(m:Nat)(ds:List V)(a:Nat)(K:Exit→List V→St→Prop):Prop:=∀j:Nat,K (.exit 2) [.lst y m ds,.bool false,.int .i64 a,.int .i64 j] []
def l2Out:Asks L2:=fun q K=>su q.y q.m q.ds (l2S q.a q.ds q.i) K
theorem l2_roundOk(q:L2)(hx:lr q=true):ah Tryz.prog LG0 9 10 (ad 9) 7 122 [1,4,5,7] (l2V q) (l2J q) (ay 0 lr l2V l2J l2Mu l2Out q):=by
 obtain⟨y,m,ds,a,i⟩:=q;unfold lr at hx;simp only[Bool.and_eq_true]at hx;have hx1:okT m ds=true:=hx.1;have p1:i≤m:=Nat.le_of_ble_eq_true hx.2.1;have p0:a≤40000:=Nat.le_of_ble_eq_true hx.2.2;obtain⟨l,rfl,rfl,p2,p3⟩:=gh hx1;show ah Tryz.prog LG0 9 10 (ad 9) 7 122 [1,4,5,7] [.lst y l.length (tls l),.bool false,.int .i64 a,.int .i64 i] [] _;rw[l2_round (.slice none 0 0) y 0 l.length [] (tls l)];have out:∀K,l2Out ⟨y,l.length,tls l,a,i⟩ K→su y l.length (tls l) (l2N a (l.drop i)) K:=fun K hK=>by
  have hK:su y l.length (tls l) (l2S a (tls l) i) K:=hK;unfold l2S at hK;rw[p3]at hK;exact hK
 have fin:l2N a (l.drop i)=a→ay 0 lr l2V l2J l2Mu l2Out ⟨y,l.length,tls l,a,i⟩ (.exit 2) [some (.lst y l.length (tls l)),some (.bool false),some (.int .i64 a),some (.int .i64 i)] []:=fun h=>by
  refine⟨[.lst y l.length (tls l),.bool false,.int .i64 a,.int .i64 i],_,fun K hK=>?_,jz _ rfl _ rfl _⟩;have hK:=out K hK;rw[h]at hK;exact hK i
 cases hd:l.drop i with
 |nil=>
  have hi:=bR hd p1;rw[decide_eq_false (show ¬((i:Int)<(l.length:Int)) by omega),cond_false];exact fin (by rw[hd];rfl)
 |cons c r=>
  obtain⟨e1,e2,e3⟩:=bh hd;obtain⟨f4,f5⟩:=tls_at (j:=3) hd (by omega);have e5:(i*4+3).blt (tls l).length=true:=Nat.ble_eq_true_of_le (by rw[Nat.mul_comm i 4];exact f5);have e4:(tls l).getD (i*4+3) (V.bool false)=.str c.d:=by
   rw[List.getD_eq_getElem?_getD,Nat.mul_comm i 4,f4];rfl
  rw[decide_eq_true (show((i:Int)<(l.length:Int)) by omega),cond_true];refine ab (fun h=>?_) (fun h=>?_)
  ·have h:=of_decide_eq_true h;have q1:decide ((i:Int)<(l.length:Int))=true:=decide_eq_true (by omega);have q2:decide ((0:Int)≤(i:Int))=true:=decide_eq_true (by omega);simp only[q1,q2,Int.toNat_natCast,e4,e5,al,ac,cond_true,Bool.and_true,show i64.wrap ((i:Int)+1)=((i+1:Nat):Int) by rw[IntWalk.i64_in _ ⟨by omega,by omega⟩];omega];have q3:i64.wrap (i64.wrap ((a:Int)+10)+if(c.d.length:Int)<9000 then(c.d.length:Int)else 9000)=((a+10+min 9000 c.d.length:Nat):Int):=by
    rw[IntWalk.i64_in ((a:Int)+10) ⟨by omega,by omega⟩];split
    ·rw[IntWalk.i64_in _ ⟨by omega,by omega⟩];omega
    ·rw[IntWalk.i64_in _ ⟨by omega,by omega⟩];omega
   rw[q3];refine⟨⟨y,l.length,tls l,a+10+min 9000 c.d.length,i+1⟩,?_,jz _ rfl _ rfl _,by simp only[l2Mu];omega,fun K hK=>?_⟩
   ·unfold lr;simp only[Bool.and_eq_true];exact⟨hx1,Nat.ble_eq_true_of_le (show i+1≤l.length by omega),Nat.ble_eq_true_of_le (show a+10+min 9000 c.d.length≤40000 by omega)⟩
   ·have hK:=out K hK;show su y l.length (tls l) (l2S (a+10+min 9000 c.d.length) (tls l) (i+1)) K;unfold l2S;rw[p3,e2];rw[hd,l2N,if_pos (by omega)]at hK;exact hK
  ·have h:=of_decide_eq_false h;exact fin (by rw[hd,l2N,if_neg (by omega)])
noncomputable def lkLa:Nat→Trans→Trans:=aR 58 (br 0 (szOf Tryz.prog 7) [0,1,4,5,6] l1Dec lu l1V l1J l1Out) (ad 9)
theorem lkLa_ok:aD Tryz.prog 0 lkLa 7:=by
 unfold lkLa;exact bo (aP 9 0 7) (by kernel_rfl) fun f st Q h=>aU (P:=Tryz.prog) (T:=LG0) (k:=0) (lim:=9) (n:=10) (g:=7) (p0:=58) (lk:=ad 9) mixed LG0_ok (aS 9 _ _) l1Mu l1_roundOk h
noncomputable def lkLb:Nat→Trans→Trans:=aR 122 (br 0 (szOf Tryz.prog 7) [1,4,5,7] l2Dec lr l2V l2J l2Out) lkLa
theorem lkLb_ok:aD Tryz.prog 0 lkLb 7:=by
 unfold lkLb;exact bo lkLa_ok (by kernel_rfl) fun f st Q h=>aU (P:=Tryz.prog) (T:=LG0) (k:=0) (lim:=9) (n:=10) (g:=7) (p0:=122) (lk:=ad 9) mixed LG0_ok (aS 9 _ _) l2Mu l2_roundOk h
noncomputable def LG1:Tab:=⟨noT,noL,cn (aL 9) 7 0 lkLb⟩
theorem LG1_ok:TabOk3 Tryz.prog LG1:=⟨aA,aB,bc (ak 9) lkLb_ok⟩
theorem long_tree(x y:Value)(n m:Nat)(cs ds:List V)(R:V→Prop):runW Tryz.prog LG1 9 10 7 [.lst x n cs,.lst y m ds] R=
  (
 Fits 0 [.lst x n cs,.lst y m ds,.bool false,.int i64 0,.int i64 0] [] [some (.lst x n cs),some (.lst y m ds),some (.bool false),some (.int
 i64 0),some (.int i64 0)] []∧bif lu {x:=x,y:=y,n:=n,m:=m,cs:=cs,ds:=ds,a:=0,i:=0}then ∀(j:Nat),Fits 0 [.lst y m ds,
 .bool false,.int i64 (↑(↑(l1S 0 cs):Int).toNat:Int),.int i64 0] [] [some (.lst y m ds),some (.bool false),some (.int i64 (↑(l1S 0
 cs):Int)),some (.int i64 0)] []∧bif lr {y:=y,m:=m,ds:=ds,a:=(↑(l1S 0 cs):Int).toNat,i:=0}then ∀(j:Nat),R (.bool (decide ((↑(l2S
 (↑(l1S 0 cs):Int).toNat ds 0):Int)≥9000)))else False else False):=by kernel_rfl
def longN(l:List (List UInt8))(r:List TL):Nat:=l2N (l1N 0 l) r
def oT(l:List (List UInt8))(r:List TL):Bool:=decide (9000≤(longN l r:Int))
theorem long_sat(x y:Value)(l:List (List UInt8))(r:List TL)(h1:l.length≤9223372036854775807)(h2:r.length≤9223372036854775807):FnSat Tryz.prog 7 [lstS x l,lstT y r] [] (Is (.bool (oT l r),[])):=by
 refine ax (lim:=9) (n:=10) mixed LG1_ok rfl rfl ?_;unfold lstS lstT;rw[long_tree];have hs:l1S 0 (strs l)=l1N 0 l:=by unfold l1S;rw[ao]
 have ho:okS l.length (strs l)=true:=by
  unfold okS;rw[bZ,aF,Nat.beq_refl,Nat.ble_eq_true_of_le h1];rfl
 have hl:=l1N_le l 0 (by omega);rw[hs,Int.toNat_natCast];refine⟨jz _ rfl _ rfl _,?_⟩;have e1:lu ⟨x,y,l.length,r.length,strs l,tls r,0,0⟩=true:=by
  unfold lu;show(okS l.length (strs l)&&(Nat.ble 0 l.length&&Nat.ble 0 20000))=true;rw[ho];rfl
 rw[e1,cond_true];intro j;refine⟨jz _ rfl _ rfl _,?_⟩;have e2:lr ⟨y,r.length,tls r,l1N 0 l,0⟩=true:=by
  unfold lr;show(okT r.length (tls r)&&(Nat.ble 0 r.length&&Nat.ble (l1N 0 l) 40000))=true;rw[l7 h2,Nat.ble_eq_true_of_le (show l1N 0 l≤40000 by omega)];rfl
 rw[e2,cond_true];intro j';have e3:l2S (l1N 0 l) (tls r) 0=longN l r:=by unfold l2S longN;rw[cN];rfl
 rw[e3];rfl
def iV(p q:V)(st:St):Bool:=match bJ st p,fe st q with
 |some (b,l),some (c,r)=>b&&(c&&(Nat.ble l.length 9223372036854775807&&Nat.ble r.length 9223372036854775807))
 |_,_=>false
def ll(p q:V)(st:St):Bool:=match bJ st p,fe st q with
 |some (_,l),some (_,r)=>oT l r
 |_,_=>false
def longGV(OK LB:V→V→St→Bool):List V→St→Option (List (Bool×(V×St)))
 |[p,q],st=>some [(OK p q st,(.bool (LB p q st),st))]
 |_,_=>none
theorem longG_ok(args:List V)(s:St)(l:List (Bool×(V×St)))(o:V×St)(h:longGV iV ll args s=some l)(ho:az l=some o):FnSat Tryz.prog 7 args s (Is o):=by
 unfold longGV at h;split at h
 ·rename_i p q;cases h;obtain⟨hb,rfl⟩:=aJ ho;unfold iV at hb;split at hb
  ·rename_i b ls c rs hv hw;simp only[Bool.and_eq_true]at hb;obtain⟨rfl,rfl,h1,h2⟩:=hb;have hL:ll p q s=oT ls rs:=by unfold ll;rw[hv,hw]
   rw[hL];refine cE rfl fun B W0 w m rargs hr ha=>?_;obtain⟨x,r,q1,q2,rfl⟩:=aj ha;obtain⟨y,r',q3,q4,rfl⟩:=aj q2;simp only[ai,Option.some.injEq]at q4;subst q4;have g1:=eV hr hv q1;have g2:=kL hr hw q3;exact⟨[lstS x ls,lstT y rs],by simp only[ai,g1,g2],@long_sat (Frz.of w) x y ls rs (Nat.le_of_ble_eq_true h1) (Nat.le_of_ble_eq_true h2)⟩
  ·cases hb
 ·cases h
end Go.Proofs.YthcoeoibejgaiaaGreatDoor
namespace Go.Proofs
open Go.Shelf
def Tryz.lays156_ren:Go.Shelf.Ren:=⟨fun|156=>53|165=>87|166=>88|169=>89|240=>130|241=>131|276=>164|277=>165|n=>n,fun|31=>25|9=>9|3=>3|4=>4|0=>0|20=>20|72=>119|76=>114|70=>117|37=>83|75=>113|127=>76|164=>181|5=>5|80=>121|n=>n,fun|n=>n⟩
theorem Tryz.lays156:Go.Proofs.Lays.n156 Tryz.prog Tryz.lays156_ren:={
 mixed:=by kernel_rfl
 f156:=Tryz.func53.trans (congrArg some (by kernel_rfl))
 f165:=Tryz.func87.trans (congrArg some (by kernel_rfl))
 f166:=Tryz.func88.trans (congrArg some (by kernel_rfl))
 f169:=Tryz.func89.trans (congrArg some (by kernel_rfl))
 f240:=Tryz.func130.trans (congrArg some (by kernel_rfl))
 f241:=Tryz.func131.trans (congrArg some (by kernel_rfl))
 f276:=Tryz.func164.trans (congrArg some (by kernel_rfl))
 f277:=Tryz.func165.trans (congrArg some (by kernel_rfl))
 t0:=Tryz.underlying0
 a0:=Tryz.isAgg0
 z0:=Tryz.sizeOf0
 v0:=Tryz.zeroValue0
 t3:=Tryz.underlying3
 a3:=Tryz.isAgg3
 z3:=Tryz.sizeOf3
 v3:=Tryz.zeroValue3
 t4:=Tryz.underlying4
 a4:=Tryz.isAgg4
 z4:=Tryz.sizeOf4
 v4:=Tryz.zeroValue4
 t9:=Tryz.underlying9
 a9:=Tryz.isAgg9
 z9:=Tryz.sizeOf9
 v9:=Tryz.zeroValue9
 t20:=Tryz.underlying20
 a20:=Tryz.isAgg20
 z20:=Tryz.sizeOf20
 v20:=Tryz.zeroValue20
 t31:=Tryz.underlying25
 a31:=Tryz.isAgg25
 z31:=Tryz.sizeOf25
 v31:=Tryz.zeroValue25
 t37:=Tryz.underlying83
 a37:=Tryz.isAgg83
 z37:=Tryz.sizeOf83
 v37:=Tryz.zeroValue83
 t70:=Tryz.underlying117
 a70:=Tryz.isAgg117
 z70:=Tryz.sizeOf117
 v70:=Tryz.zeroValue117
 t72:=Tryz.underlying119
 a72:=Tryz.isAgg119
 z72:=Tryz.sizeOf119
 v72:=Tryz.zeroValue119
 t75:=Tryz.underlying113
 a75:=Tryz.isAgg113
 z75:=Tryz.sizeOf113
 v75:=Tryz.zeroValue113
 t76:=Tryz.underlying114
 a76:=Tryz.isAgg114
 z76:=Tryz.sizeOf114
 v76:=Tryz.zeroValue114
 t127:=Tryz.underlying76
 a127:=Tryz.isAgg76
 z127:=Tryz.sizeOf76
 v127:=Tryz.zeroValue76
 t164:=Tryz.underlying181
 a164:=Tryz.isAgg181
 z164:=Tryz.sizeOf181
 v164:=Tryz.zeroValue181}
theorem Tryz.Builder_Extra_156:Builder.Extra Tryz.prog Tryz.lays156_ren:={
 sizeBuilder:=by kernel_rfl
 liesBuilder:=by kernel_rfl
 t5:=Tryz.underlying5
 a5:=Tryz.isAgg5
 z5:=Tryz.sizeOf5
 v5:=Tryz.zeroValue5
 infoByte:=by kernel_rfl
 cellsByte:=by kernel_rfl
 sizeByte:=by kernel_rfl
 neB5:=by decide}
open Go.RowKit in
open Go.RowKit in
theorem Tryz.strings_Join(bk o c:Nat)(xs:List ByteArray)(sep:ByteArray)(w:World)(hcells:∀(j:Nat) x,xs[j]?=some x→w.cell? ⟨bk,o+j,none⟩=some (.string x))(hbk:bk<w.heap.size)(hN:xs.length≤140737488355328)(hcap:xs.length≤c)(hlen:(Lib.join (xs.map (·.data.toList)) sep.data.toList).length≤140737488355328):
 Calls Tryz.prog 53 #[.slice (some ⟨bk,o,none⟩) xs.length c,.string sep] w fun e w'=>e=.returned (.string ⟨(Lib.join (xs.map (·.data.toList)) sep.data.toList).toArray⟩)∧Below w.heap.size w w':=Any.strings_Join Tryz.lays156 Tryz.Builder_Extra_156 bk o c xs sep w hcells hbk hN hcap hlen
end Go.Proofs
namespace Go.Proofs.YthcoeoibejgaiaaGreatDoor
open Go Go.Vm Go.RowKit
theorem joinOk:JoinOk Tryz.prog 53:=fun bk o c xs sep w h1 h2 h3 h4 h5=>Tryz.strings_Join bk o c xs sep w h1 h2 h3 h4 h5
end Go.Proofs.YthcoeoibejgaiaaGreatDoor
