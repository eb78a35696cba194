/- The numbers of der: what Int and ReadInt come to. -/
import Derived.Test.YtebkeppoicllmaaDoorDMath
namespace Go.Proofs.YtebkeppoicllmaaDoor
open Go.IntKind (u8 u16 u32 u64 i8 i16 i32 i64)
open Go Go.Vm Go.RowKit
set_option linter.unusedSectionVars false
variable [Φ:Frz]
set_option linter.unusedVariables false
set_option maxRecDepth 100000
noncomputable def DT9:Tab:=⟨noT,noL,bf 9⟩
theorem DT9_ok:TabOk3 Tryd.prog DT9:=⟨aL,aM,au 9⟩
theorem int_r1(n:Int)(R:Exit→List (Option V)→St→Prop):ao Tryd.prog DT9 9 10 (ah 9) 31 28 [0,2,3] [.int .i64 n,.str [],.int .i64 1] [] R=
  (
 bif decide (n< -128)then R .normal [some (.int i64 n),some (.str []),some (.int i64 2)] []else bif decide (n>127)then R .normal [some
 (.int i64 n),some (.str []),some (.int i64 2)] []else R (.exit 0) [some (.int i64 n),some (.str []),some (.int i64 1)] []):=by kernel_rfl
theorem int_r2(n:Int)(R:Exit→List (Option V)→St→Prop):ao Tryd.prog DT9 9 10 (ah 9) 31 28 [0,2,3] [.int .i64 n,.str [],.int .i64 2] [] R=
  (
 bif decide (n< -32768)then R .normal [some (.int i64 n),some (.str []),some (.int i64 3)] []else bif decide (n>32767)then R .normal
 [some (.int i64 n),some (.str []),some (.int i64 3)] []else R (.exit 0) [some (.int i64 n),some (.str []),some (.int i64
 2)] []):=by kernel_rfl
theorem int_r3(n:Int)(R:Exit→List (Option V)→St→Prop):ao Tryd.prog DT9 9 10 (ah 9) 31 28 [0,2,3] [.int .i64 n,.str [],.int .i64 3] [] R=
  (
 bif decide (n< -8388608)then R .normal [some (.int i64 n),some (.str []),some (.int i64 4)] []else bif decide (n>8388607)then R .normal
 [some (.int i64 n),some (.str []),some (.int i64 4)] []else R (.exit 0) [some (.int i64 n),some (.str []),some (.int i64
 3)] []):=by kernel_rfl
theorem int_r4(n:Int)(R:Exit→List (Option V)→St→Prop):ao Tryd.prog DT9 9 10 (ah 9) 31 28 [0,2,3] [.int .i64 n,.str [],.int .i64 4] [] R=
  (
 bif decide (n< -2147483648)then R .normal [some (.int i64 n),some (.str []),some (.int i64 5)] []else bif decide (n>2147483647)then R
 .normal [some (.int i64 n),some (.str []),some (.int i64 5)] []else R (.exit 0) [some (.int i64 n),some (.str []),some (.int
 i64 4)] []):=by kernel_rfl
theorem int_r5(n:Int)(R:Exit→List (Option V)→St→Prop):ao Tryd.prog DT9 9 10 (ah 9) 31 28 [0,2,3] [.int .i64 n,.str [],.int .i64 5] [] R=
  (
 bif decide (n< -549755813888)then R .normal [some (.int i64 n),some (.str []),some (.int i64 6)] []else bif decide (n>549755813887)then R
 .normal [some (.int i64 n),some (.str []),some (.int i64 6)] []else R (.exit 0) [some (.int i64 n),some (.str []),some (.int
 i64 5)] []):=by kernel_rfl
theorem int_r6(n:Int)(R:Exit→List (Option V)→St→Prop):ao Tryd.prog DT9 9 10 (ah 9) 31 28 [0,2,3] [.int .i64 n,.str [],.int .i64 6] [] R=
  (
 bif decide (n< -140737488355328)then R .normal [some (.int i64 n),some (.str []),some (.int i64 7)] []else bif decide (n>140737488355327)
 then R .normal [some (.int i64 n),some (.str []),some (.int i64 7)] []else R (.exit 0) [some (.int i64 n),some (.str []),some
 (.int i64 6)] []):=by kernel_rfl
theorem int_r7(n:Int)(R:Exit→List (Option V)→St→Prop):ao Tryd.prog DT9 9 10 (ah 9) 31 28 [0,2,3] [.int .i64 n,.str [],.int .i64 7] [] R=
  (
 bif decide (n< -36028797018963968)then R .normal [some (.int i64 n),some (.str []),some (.int i64 8)] []else bif decide (n>
 36028797018963967)then R .normal [some (.int i64 n),some (.str []),some (.int i64 8)] []else R (.exit 0) [some (.int i64 n),some
 (.str []),some (.int i64 7)] []):=by kernel_rfl
theorem int_r8(n:Int)(R:Exit→List (Option V)→St→Prop):ao Tryd.prog DT9 9 10 (ah 9) 31 28 [0,2,3] [.int .i64 n,.str [],.int .i64 8] [] R=
  (
 R (.exit 0) [some (.int i64 n),some (.str []),some (.int i64 8)] []):=by kernel_rfl
def bo(n:Int):Int:=if-128≤n∧n≤127 then 1 else if-32768≤n∧n≤32767 then 2 else if-8388608≤n∧n≤8388607 then 3 else if-2147483648≤n∧n≤2147483647 then 4 else if-549755813888≤n∧n≤549755813887 then 5 else if-140737488355328≤n∧n≤140737488355327 then 6 else if-36028797018963968≤n∧n≤36028797018963967 then 7 else 8
structure IS where
 n:Int
 m:Int
def isV(x:IS):List V:=[.int .i64 x.n,.str [],.int .i64 x.m]
def isJ(x:IS):St:=[]
def iw(x:IS):Bool:=decide (1≤x.m)&&decide (x.m≤bo x.n)
def isMu(x:IS):Nat:=(8-x.m).toNat
def isDec:List (Option V)→St→Option IS
 |[some (.int .i64 n),some (.str []),some (.int .i64 m)],[]=>some ⟨n,m⟩
 |_,_=>none
def isOutN(n:Int)(K:Exit→List V→St→Prop):Prop:=(bo n=1→K (.exit 0) [.int .i64 n,.str [],.int .i64 1] [])∧(bo n=2→K (.exit 0) [.int .i64 n,.str [],.int .i64 2] [])∧(bo n=3→K (.exit 0) [.int .i64 n,.str [],.int .i64 3] [])∧(bo n=4→K (.exit 0) [.int .i64 n,.str [],.int .i64 4] [])∧(bo n=5→K (.exit 0) [.int .i64 n,.str [],.int .i64 5] [])∧(bo n=6→K (.exit 0) [.int .i64 n,.str [],.int .i64 6] [])∧(bo n=7→K (.exit 0) [.int .i64 n,.str [],.int .i64 7] [])∧(bo n=8→K (.exit 0) [.int .i64 n,.str [],.int .i64 8] [])
def isOut:Asks IS:=fun x K=>isOutN x.n K
theorem oI(x:IS):Fits 0 (isV x) [] ((isV x).map some) []:=⟨[],isV x,rfl,rfl,FitsM.of trivial,by simp,fun i hi=>by omega⟩
theorem many_iff1(n:Int):bo n≤1↔(-128≤n∧n≤127):=by
 unfold bo
 repeat' split
 all_goals omega
theorem many_iff2(n:Int):bo n≤2↔(-32768≤n∧n≤32767):=by
 unfold bo
 repeat' split
 all_goals omega
theorem many_iff3(n:Int):bo n≤3↔(-8388608≤n∧n≤8388607):=by
 unfold bo
 repeat' split
 all_goals omega
theorem many_iff4(n:Int):bo n≤4↔(-2147483648≤n∧n≤2147483647):=by
 unfold bo
 repeat' split
 all_goals omega
theorem many_iff5(n:Int):bo n≤5↔(-549755813888≤n∧n≤549755813887):=by
 unfold bo
 repeat' split
 all_goals omega
theorem many_iff6(n:Int):bo n≤6↔(-140737488355328≤n∧n≤140737488355327):=by
 unfold bo
 repeat' split
 all_goals omega
theorem many_iff7(n:Int):bo n≤7↔(-36028797018963968≤n∧n≤36028797018963967):=by
 unfold bo
 repeat' split
 all_goals omega
theorem ji(n:Int):bo n≤8∧1≤bo n:=by
 unfold bo
 repeat' split
 all_goals omega
theorem fd{n m lo hi:Int}(hiff:bo n≤m↔(lo≤n∧n≤hi))(p2:m≤bo n){A B:Prop}(hA:m+1≤bo n→A)(hB:bo n=m→B):(bif decide (n<lo)then A else bif decide (n>hi)then A else B):=by
 refine ab (fun h=>hA ?_) (fun h=>ab (fun h2=>hA ?_) (fun h2=>hB ?_))
 ·have h:=of_decide_eq_true h;omega
 ·have h2:=of_decide_eq_true h2;omega
 ·have h:=of_decide_eq_false h;have h2:=of_decide_eq_false h2;omega
theorem int_round(x:IS)(hx:iw x=true):ao Tryd.prog DT9 9 10 (ah 9) 31 28 [0,2,3] (isV x) (isJ x) (aR 0 iw isV isJ isMu isOut x):=by
 obtain⟨n,m⟩:=x;simp only[iw,Bool.and_eq_true,decide_eq_true_eq]at hx;obtain⟨p1,p2⟩:=hx;have hmx:=ji n;have hm:m≤8:=by omega
 have stop:bo n=m→aR 0 iw isV isJ isMu isOut ⟨n,m⟩ (.exit 0) ((isV ⟨n,m⟩).map some) []:=by
  intro h;refine⟨isV ⟨n,m⟩,[],fun K hK=>?_,oI _⟩;obtain⟨k1,k2,k3,k4,k5,k6,k7,k8⟩:isOutN n K:=hK;obtain rfl|rfl|rfl|rfl|rfl|rfl|rfl|rfl:m=1∨m=2∨m=3∨m=4∨m=5∨m=6∨m=7∨m=8:=by omega
  ·exact k1 h
  ·exact k2 h
  ·exact k3 h
  ·exact k4 h
  ·exact k5 h
  ·exact k6 h
  ·exact k7 h
  ·exact k8 h
 have next:m+1≤bo n→aR 0 iw isV isJ isMu isOut ⟨n,m⟩ .normal ((isV ⟨n,m+1⟩).map some) []:=by
  intro h;refine⟨⟨n,m+1⟩,?_,oI _,?_,fun K hK=>hK⟩
  ·simp only[iw,Bool.and_eq_true,decide_eq_true_eq];omega
  ·simp only[isMu];omega
 obtain rfl|rfl|rfl|rfl|rfl|rfl|rfl|rfl:m=1∨m=2∨m=3∨m=4∨m=5∨m=6∨m=7∨m=8:=by omega
 ·show ao Tryd.prog DT9 9 10 (ah 9) 31 28 [0,2,3] [.int .i64 n,.str [],.int .i64 1] [] _;rw[int_r1];exact fd (many_iff1 n) p2 next stop
 ·show ao Tryd.prog DT9 9 10 (ah 9) 31 28 [0,2,3] [.int .i64 n,.str [],.int .i64 2] [] _;rw[int_r2];exact fd (many_iff2 n) p2 next stop
 ·show ao Tryd.prog DT9 9 10 (ah 9) 31 28 [0,2,3] [.int .i64 n,.str [],.int .i64 3] [] _;rw[int_r3];exact fd (many_iff3 n) p2 next stop
 ·show ao Tryd.prog DT9 9 10 (ah 9) 31 28 [0,2,3] [.int .i64 n,.str [],.int .i64 4] [] _;rw[int_r4];exact fd (many_iff4 n) p2 next stop
 ·show ao Tryd.prog DT9 9 10 (ah 9) 31 28 [0,2,3] [.int .i64 n,.str [],.int .i64 5] [] _;rw[int_r5];exact fd (many_iff5 n) p2 next stop
 ·show ao Tryd.prog DT9 9 10 (ah 9) 31 28 [0,2,3] [.int .i64 n,.str [],.int .i64 6] [] _;rw[int_r6];exact fd (many_iff6 n) p2 next stop
 ·show ao Tryd.prog DT9 9 10 (ah 9) 31 28 [0,2,3] [.int .i64 n,.str [],.int .i64 7] [] _;rw[int_r7];exact fd (many_iff7 n) p2 next stop
 ·show ao Tryd.prog DT9 9 10 (ah 9) 31 28 [0,2,3] [.int .i64 n,.str [],.int .i64 8] [] _;rw[int_r8];exact stop (by omega)
noncomputable def lk16:Nat→Trans→Trans:=bA 28 (cx 0 (szOf Tryd.prog 31) [0,2,3] isDec iw isV isJ isOut) (ah 9)
theorem int_loop{f:Fr}{st:St}{Q:Exit→Fr→St→Prop}(h:cx 0 (szOf Tryd.prog 31) [0,2,3] isDec iw isV isJ isOut f st Q):CodeSatW Tryd.prog none 0 (.loop (dJ Tryd.prog 31 28)) f st Q:=
 bN (P:=Tryd.prog) (T:=DT9) (k:=0) (lim:=9) (n:=10) (g:=31) (p0:=28) (lk:=ah 9) aH DT9_ok (bn 9 _ _) isMu int_round h
theorem lk16_ok:aC Tryd.prog 0 lk16 31:=by
 unfold lk16;exact cm (bj 9 0 31) (by kernel_rfl) fun f st Q h=>int_loop h
noncomputable def DT10:Tab:=⟨noT,noL,dS (bf 9) 31 0 lk16⟩
theorem DT10_ok:TabOk3 Tryd.prog DT10:=⟨aL,aM,bT (au 9) lk16_ok⟩
theorem int_tree(n:Int)(R:V→Prop):runW Tryd.prog DT10 9 10 31 [.int .i64 n] R=
  (
 Fits 0 [.int i64 n,.str [],.int i64 1] [] [some (.int i64 n),some (.str []),some (.int i64 1)] []∧bif iw {n:=n,m:=1}
 then(bo n=1→R (.str (List.map Vm.byteOf [.int u8 (u8.wrap (n.fdiv 1))])))∧(bo n=2→R (.str (List.map Vm.byteOf [.int u8
 (u8.wrap (n.fdiv 256)),.int u8 (u8.wrap (n.fdiv 1))])))∧(bo n=3→R (.str (List.map Vm.byteOf [.int u8 (u8.wrap (n.fdiv
 65536)),.int u8 (u8.wrap (n.fdiv 256)),.int u8 (u8.wrap (n.fdiv 1))])))∧(bo n=4→R (.str (List.map Vm.byteOf [.int
 u8 (u8.wrap (n.fdiv 16777216)),.int u8 (u8.wrap (n.fdiv 65536)),.int u8 (u8.wrap (n.fdiv 256)),.int u8
 (u8.wrap (n.fdiv 1))])))∧(bo n=5→R (.str (List.map Vm.byteOf [.int u8 (u8.wrap (n.fdiv 4294967296)),.int u8 (u8.wrap
 (n.fdiv 16777216)),.int u8 (u8.wrap (n.fdiv 65536)),.int u8 (u8.wrap (n.fdiv 256)),.int u8 (u8.wrap (n.fdiv 1))])))
 ∧(bo n=6→R (.str (List.map Vm.byteOf [.int u8 (u8.wrap (n.fdiv 1099511627776)),.int u8 (u8.wrap (n.fdiv 4294967296)),.int
 u8 (u8.wrap (n.fdiv 16777216)),.int u8 (u8.wrap (n.fdiv 65536)),.int u8 (u8.wrap (n.fdiv 256)),.int u8
 (u8.wrap (n.fdiv 1))])))∧(bo n=7→R (.str (List.map Vm.byteOf [.int u8 (u8.wrap (n.fdiv 281474976710656)),.int u8
 (u8.wrap (n.fdiv 1099511627776)),.int u8 (u8.wrap (n.fdiv 4294967296)),.int u8 (u8.wrap (n.fdiv 16777216)),.int u8
 (u8.wrap (n.fdiv 65536)),.int u8 (u8.wrap (n.fdiv 256)),.int u8 (u8.wrap (n.fdiv 1))])))∧(bo n=8→R (.str (List.map
 Vm.byteOf [.int u8 (u8.wrap (n.fdiv 72057594037927936)),.int u8 (u8.wrap (n.fdiv 281474976710656)),.int u8 (u8.wrap
 (n.fdiv 1099511627776)),.int u8 (u8.wrap (n.fdiv 4294967296)),.int u8 (u8.wrap (n.fdiv 16777216)),.int u8 (u8.wrap
 (n.fdiv 65536)),.int u8 (u8.wrap (n.fdiv 256)),.int u8 (u8.wrap (n.fdiv 1))])))else False):=by kernel_rfl
def intL(n:Int):List UInt8:=beL (bo n).toNat n
def intF:List V→Option V
 |[.int .i64 n]=>some (.str (intL n))
 |_=>none
theorem int_ok(args:List V)(v:V)(h:intF args=some v):FnSat Tryd.prog 31 args [] (Is (v,[])):=by
 unfold intF at h;split at h
 ·rename_i n;cases h;refine aJ (lim:=9) (n:=10) aH DT10_ok rfl rfl ?_;rw[int_tree];have hmx:=ji n;refine⟨oI ⟨n,1⟩,ae (by simp only[iw,Bool.and_eq_true,decide_eq_true_eq];omega) ⟨?_,?_,?_,?_,?_,?_,?_,?_⟩⟩<;>(intro h;unfold intL;rw[h];rfl)
 ·cases h
theorem many_range{n:Int}(h0:-9223372036854775808≤n)(h1:n≤9223372036854775807):∃m,(bo n).toNat=m+1∧-(128*((256^m:Nat):Int))≤n∧n<128*((256^m:Nat):Int):=by
 unfold bo
 repeat' split
 ·exact⟨0,rfl,by simp;omega,by simp;omega⟩
 ·exact⟨1,rfl,by simp;omega,by simp;omega⟩
 ·exact⟨2,rfl,by simp;omega,by simp;omega⟩
 ·exact⟨3,rfl,by simp;omega,by simp;omega⟩
 ·exact⟨4,rfl,by simp;omega,by simp;omega⟩
 ·exact⟨5,rfl,by simp;omega,by simp;omega⟩
 ·exact⟨6,rfl,by simp;omega,by simp;omega⟩
 ·exact⟨7,rfl,by simp;omega,by simp;omega⟩
theorem dec_int{n:Int}(h0:-9223372036854775808≤n)(h1:n≤9223372036854775807):dec (intL n)=n:=by
 obtain⟨m,e,k1,k2⟩:=many_range h0 h1;unfold intL;rw[e];exact dec_be k1 k2
theorem intL_len(n:Int):(intL n).length=(bo n).toNat:=beL_len n _
theorem rd_round(s:List UInt8)(n i:Int)(R:Exit→List (Option V)→St→Prop):ao Tryd.prog DT9 9 10 (ah 9) 44 122 [0,2,3,4,5] [.str s,.int .i64 0,.int .i64 0,.int .i64 n,.int .i64 i] [] R=
  (
 bif decide (i<(↑s.length:Int))then bif decide (0≤i)&&i.toNat.blt s.length then R .normal [some (.str s),some (.int i64 0),some (.int i64
 0),some (.int i64 (i64.wrap (↑(BitVec.ofInt 64 (i64.wrap (n*256))|||BitVec.ofInt 64 (i64.wrap (↑(s.getD i.toNat 0).toNat:
 Int))).toNat:Int))),some (.int i64 (i64.wrap (i+1)))] []else False else R (.exit 0) [some (.str s),some (.int i64 0),some (.int
 i64 0),some (.int i64 n),some (.int i64 i)] []):=by kernel_rfl
structure RS where
 s:List UInt8
 n:Int
 i:Int
def rsV(x:RS):List V:=[.str x.s,.int .i64 0,.int .i64 0,.int .i64 x.n,.int .i64 x.i]
def rsJ(x:RS):St:=[]
def kg(x:RS):Bool:=decide (1≤x.i)&&decide (x.i≤x.s.length)&&decide (x.s.length≤8)&&decide (x.n=dec (x.s.take x.i.toNat))
def rsMu(x:RS):Nat:=x.s.length-x.i.toNat
def rsDec:List (Option V)→St→Option RS
 |[some (.str s),some (.int .i64 0),some (.int .i64 0),some (.int .i64 n),some (.int .i64 i)],[]=>some ⟨s,n,i⟩
 |_,_=>none
def rsOut:Asks RS:=fun x K=>K (.exit 0) (rsV ⟨x.s,dec x.s,x.s.length⟩) []
theorem od(x:RS):Fits 0 (rsV x) [] ((rsV x).map some) []:=⟨[],rsV x,rfl,rfl,FitsM.of trivial,by simp,fun i hi=>by omega⟩
theorem dec_small{s:List UInt8}{i:Nat}(h:i<8)(hs:s≠[]):-36028797018963968≤dec (s.take i)∧dec (s.take i)<36028797018963968:=by
 cases hl:s.take i with
 |nil=>simp[dec]
 |cons b r=>
  have hb:=dec_bounds b r;have hlen:r.length≤6:=by
   have:=congrArg List.length hl;simp at this;omega
  have:((256^r.length:Nat):Int)≤((256^6:Nat):Int):=by
   have:=Nat.pow_le_pow_right (n:=256) (by omega) hlen;omega
  have e:((256^6:Nat):Int)=281474976710656:=by simp
  omega
theorem rd_roundOk(x:RS)(hx:kg x=true):ao Tryd.prog DT9 9 10 (ah 9) 44 122 [0,2,3,4,5] (rsV x) (rsJ x) (aR 0 kg rsV rsJ rsMu rsOut x):=by
 obtain⟨s,n,i⟩:=x;simp only[kg,Bool.and_eq_true,decide_eq_true_eq]at hx;have p1:=hx.1.1.1;have p2:=hx.1.1.2;have p3:=hx.1.2;have p4:=hx.2;clear hx;show ao Tryd.prog DT9 9 10 (ah 9) 44 122 [0,2,3,4,5] [.str s,.int .i64 0,.int .i64 0,.int .i64 n,.int .i64 i] [] _;rw[rd_round];refine ab (fun h=>ae ?_ ?_) (fun h=>?_)
 ·have h:=of_decide_eq_true h;rw[Bool.and_eq_true];exact⟨decide_eq_true (by omega),Nat.ble_eq_true_of_le (by omega)⟩
 ·have h:=of_decide_eq_true h;have hs:s≠[]:=by intro e;rw[e]at h;simp at h;omega
  have hb:=dec_small (i:=i.toNat) (s:=s) (by omega) hs;rw[←p4]at hb;have e1:i64.wrap (n*256)=n*256:=IntWalk.i64_in _ ⟨by omega,by omega⟩;have e2:i64.wrap (i+1)=i+1:=IntWalk.i64_in _ ⟨by omega,by omega⟩;have e3:=dec_take (s:=s) (i:=i.toNat) (by omega) (by omega);rw[e1,e2,jq,or_byte n _ hb.1 hb.2 (s.getD i.toNat 0).toNat_lt];refine⟨⟨s,n*256+(s.getD i.toNat 0).toNat,i+1⟩,?_,od _,by simp only[rsMu];omega,fun K hK=>hK⟩;simp only[kg,Bool.and_eq_true,decide_eq_true_eq];refine⟨⟨⟨by omega,by omega⟩,p3⟩,?_⟩;rw[show(i+1).toNat=i.toNat+1 by omega,e3,←p4]
 ·have h:=of_decide_eq_false h;have hi:i=s.length:=by omega
  subst hi;rw[p4,Int.toNat_natCast,List.take_length];exact⟨_,_,fun K hK=>hK,od ⟨s,dec s,s.length⟩⟩
noncomputable def lk12:Nat→Trans→Trans:=bA 122 (cx 0 (szOf Tryd.prog 44) [0,2,3,4,5] rsDec kg rsV rsJ rsOut) (ah 9)
theorem rd_loop{f:Fr}{st:St}{Q:Exit→Fr→St→Prop}(h:cx 0 (szOf Tryd.prog 44) [0,2,3,4,5] rsDec kg rsV rsJ rsOut f st Q):CodeSatW Tryd.prog none 0 (.loop (dJ Tryd.prog 44 122)) f st Q:=
 bN (P:=Tryd.prog) (T:=DT9) (k:=0) (lim:=9) (n:=10) (g:=44) (p0:=122) (lk:=ah 9) aH DT9_ok (bn 9 _ _) rsMu rd_roundOk h
theorem lk12_ok:aC Tryd.prog 0 lk12 44:=by
 unfold lk12;exact cm (bj 9 0 44) (by kernel_rfl) fun f st Q h=>rd_loop h
noncomputable def DT11:Tab:=⟨addP noT 31 intF,noL,dS (bf 9) 44 0 lk12⟩
theorem DT11_ok:TabOk3 Tryd.prog DT11:=⟨aQ aL int_ok,aM,bT (au 9) lk12_ok⟩
theorem read_tree(s:List UInt8)(R:V→Prop):runW Tryd.prog DT11 9 10 44 [.str s] R=
  (
 bif decide ((↑s.length:Int)<1)then R (.tuple [.int i64 0,.int i64 4])else bif decide ((↑s.length:Int)>8)then R (.tuple [.int i64
 0,.int i64 4])else bif true&&Nat.blt 0 s.length then Fits 0 [.str s,.int i64 0,.int i64 0,.int i64 (i64.wrap
 (i8.wrap (↑(s.getD 0 0).toNat:Int))),.int i64 1] [] [some (.str s),some (.int i64 0),some (.int i64 0),some (.int i64
 (i64.wrap (i8.wrap (↑(s.getD 0 0).toNat:Int)))),some (.int i64 1)] []∧bif kg {s:=s,n:=i64.wrap (i8.wrap (↑(s.getD 0 0).toNat:Int)),i:=1}
 then bif !intL (dec s)==s then R (.tuple [.int i64 0,.int i64 4])else R (.tuple [.int i64 (dec s),.int i64 0])else False else
 False):=by kernel_rfl
def bc(s:List UInt8):Int:=if s.length<1∨8<s.length then 4 else if intL (dec s)=s then 0 else 4
def ba(s:List UInt8):Int:=if bc s=0 then dec s else 0
def readF:List V→Option V
 |[.str s]=>some (.tuple [.int .i64 (ba s),.int .i64 (bc s)])
 |_=>none
theorem i8_byte(b:UInt8):i64.wrap (i8.wrap (b.toNat:Int))=sgnB b:=by
 have hb:=b.toNat_lt;have e:i8.wrap (b.toNat:Int)=sgnB b:=by
  simp[IntKind.wrap,IntKind.bits,IntKind.signed,sgnB];split<;>split<;>omega
 rw[e,IntWalk.i64_in _ ⟨by unfold sgnB;split<;>omega,by unfold sgnB;split<;>omega⟩]
theorem read_ok(args:List V)(v:V)(h:readF args=some v):FnSat Tryd.prog 44 args [] (Is (v,[])):=by
 unfold readF at h;split at h
 ·rename_i s;cases h;refine aJ (lim:=9) (n:=10) aH DT11_ok rfl rfl ?_;rw[read_tree];refine ab (fun h=>?_) (fun h=>ab (fun h1=>?_) (fun h1=>ae ?_ ?_))
  ·have h:s.length<1:=by have:=of_decide_eq_true h;omega
   have e:bc s=4:=by unfold bc;rw[if_pos (.inl h)]
   simp[ba,e]
  ·have h1:8<s.length:=by have:=of_decide_eq_true h1;omega
   have e:bc s=4:=by unfold bc;rw[if_pos (.inr h1)]
   simp[ba,e]
  ·have:=of_decide_eq_false h;rw[Bool.true_and];exact Nat.ble_eq_true_of_le (by omega)
  ·have h0:¬(s.length<1∨8<s.length):=by have:=of_decide_eq_false h;have:=of_decide_eq_false h1;omega
   rw[i8_byte];refine⟨od ⟨s,sgnB (s.getD 0 0),1⟩,ae ?_ (ab (fun h2=>?_) (fun h2=>?_))⟩
   ·cases s with
    |nil=>simp at h0
    |cons b r=>
     simp only[kg,Bool.and_eq_true,decide_eq_true_eq,List.length_cons]at h0 ⊢;refine⟨⟨⟨by omega,by omega⟩,by omega⟩,rfl⟩
   ·have h2:¬intL (dec s)=s:=by simpa using h2
    have e:bc s=4:=by unfold bc;rw[if_neg h0,if_neg h2]
    simp[ba,e]
   ·have h2:intL (dec s)=s:=by simpa using h2
    have e:bc s=0:=by unfold bc;rw[if_neg h0,if_pos h2]
    simp[ba,e]
 ·cases h
theorem read_int{n:Int}(h0:-9223372036854775808≤n)(h1:n≤9223372036854775807):bc (intL n)=0∧ba (intL n)=n:=by
 have hd:=dec_int h0 h1;have hl:=intL_len n;have hm:=ji n;have e:bc (intL n)=0:=by unfold bc;rw[if_neg (by omega),hd,if_pos rfl]
 exact⟨e,by unfold ba;rw[if_pos e,hd]⟩
end Go.Proofs.YtebkeppoicllmaaDoor
