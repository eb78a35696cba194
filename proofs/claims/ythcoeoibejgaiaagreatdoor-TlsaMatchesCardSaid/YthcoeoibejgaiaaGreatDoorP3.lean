/- Parts of this work: what the functions come to. -/
import Derived.Test.YthcoeoibejgaiaaGreatDoorP2
import Derived.Test.YthcoeoibejgaiaaGreatDoorP1
namespace Go.Proofs.YthcoeoibejgaiaaGreatDoor
open Go.IntKind (u8 u16 u32 u64 i8 i16 i32 i64)
open Go Go.Vm Go.RowKit
set_option linter.unusedVariables false
set_option linter.unusedSectionVars false
set_option maxRecDepth 100000
variable [Φ:Frz]
theorem rlong_tree(n:Int)(R:V→Prop):runW Tryz.prog RN13 9 10 144 [.int .i64 n] R=
  (
 bif decide (n<128)then R (.str [oneB n])else bif decide (n<256)then R (.str ([129]++[oneB n]))else R (.str ([130]++[oneB (i64.wrap (n.tdiv 256))]
 ++[oneB n]))):=by kernel_rfl
def rN:List V→Option (List (Bool×(V×St)))
 |[.int .i64 n]=>some [(decide (0≤n)&&decide (n≤65535),(.str (lenB n.toNat),[]))]
 |_=>none
theorem r7{n:Nat}:oneB (n:Int)=UInt8.ofNat n:=by
 unfold oneB;rw[Int.tmod_eq_emod_of_nonneg (by omega),IntKind.wrap_u8];apply UInt8.toNat_inj.1;simp only[UInt8.toNat_ofNat'];omega
theorem rlong_ok(args:List V)(l:List (Bool×(V×St)))(o:V×St)(h:rN args=some l)(ho:az l=some o):FnSat Tryz.prog 144 args [] (Is o):=by
 unfold rN at h;split at h
 ·rename_i n;cases h;obtain⟨hk,rfl⟩:=aJ ho;simp only[Bool.and_eq_true,decide_eq_true_eq]at hk;obtain⟨m,rfl⟩:∃m:Nat,n=m:=⟨n.toNat,by omega⟩;have hm:m≤65535:=by omega
  refine ax (lim:=9) (n:=10) mixed jE rfl rfl ?_;rw[rlong_tree,Int.toNat_natCast];have w:i64.wrap ((m:Int).tdiv 256)=((m/256:Nat):Int):=by
   rw[Int.tdiv_eq_ediv_of_nonneg (by omega),IntWalk.i64_in _ ⟨by omega,by omega⟩];omega
  rw[w,r7,r7];unfold lenB;refine ab (fun h=>?_) (fun h=>ab (fun h1=>?_) (fun h1=>?_))
  ·have h:=of_decide_eq_true h;rw[if_neg (by omega),if_neg (by omega)]
  ·have h:=of_decide_eq_false h;have h1:=of_decide_eq_true h1;rw[if_neg (by omega),if_pos (by omega)];rfl
  ·have h1:=of_decide_eq_false h1;rw[if_pos (by omega)];rfl
 ·cases h
noncomputable def RP0:Tab:=⟨addT (addP noT 171 my) 144 rN,noL,aL 3⟩
theorem mC:TabOk3 Tryz.prog RP0:=⟨aE (aN aA lK) rlong_ok,aB,ak 3⟩
noncomputable def RP2:Tab:=⟨addT (addP noT 171 my) 144 rN,noL,aL 0⟩
theorem RP2_ok:TabOk3 Tryz.prog RP2:=⟨aE (aN aA lK) rlong_ok,aB,ak 0⟩
theorem rput_tree(t:Int)(s:List UInt8)(R:V→Prop):runW Tryz.prog RP0 9 10 167 [.agg [.int .u8 t,.str s]] R=
  (
 bif t.tmod 32==31 then R (.tuple [.str [],.int i64 4])else bif decide ((↑s.length:Int)>65535)then R (.tuple [.str [],.int i64 40])else
 bif true&&decide ((↑s.length:Int)≤65535)then bif (1+(lenB (↑s.length:Int).toNat).length).ble 9223372036854775807 then bif (([oneB (i64.wrap t)]++lenB
 (↑s.length:Int).toNat).length+s.length).ble 9223372036854775807 then R (.tuple [.str ([oneB (i64.wrap t)]++lenB (↑s.length:Int).toNat++s),.int
 i64 0])else False else False else False):=by kernel_rfl
noncomputable def zI_0(s:List UInt8):=(1+(↑(lenB (i64.wrap (↑(s.getD 1 0).toNat:Int)).toNat).length:Int))
noncomputable def zI_1(s:List UInt8):=(i64.wrap (zI_0 s)+i64.wrap (↑(s.getD 1 0).toNat:Int))
noncomputable def zI_2:=V.tuple [V.agg [V.int u8 0,V.str []],V.str [],V.int i64 4]
noncomputable def zI_3:=V.tuple [V.agg [V.int u8 0,V.str []],V.str [],V.int i64 8]
theorem rget_g(s:List UInt8)(R:V→Prop):runW Tryz.prog RP2 3 10 104 [.str s] R=
 (
 bif s==[]then R zI_3 else bif true&&Nat.blt 0 s.length then bif (↑(s.getD 0 0).toNat:Int).tmod 32==31 then R zI_2 else bif (↑s.length:Int)==1 then R
 zI_3 else bif true&&Nat.blt 1 s.length then bif (↑(s.getD 1 0).toNat:Int)==128 then R zI_2 else bif decide ((↑(s.getD 1 0).toNat:Int)>130)then R zI_2
 else bif decide ((↑(s.getD 1 0).toNat:Int)>128)then False else bif decide (0≤i64.wrap (↑(s.getD 1 0).toNat:Int))&&decide (i64.wrap
 (↑(s.getD 1 0).toNat:Int)≤65535)then bif decide (0≤i64.wrap (zI_0 s))then bif Nat.ble 1 (i64.wrap (zI_0 s)).toNat&&(i64.wrap
 (zI_0 s)).toNat.ble s.length then bif !List.take ((i64.wrap (zI_0 s)).toNat-1) (List.drop 1 s)==lenB (i64.wrap (↑(s.getD 1 0).toNat:
 Int)).toNat then R zI_2 else bif decide (i64.wrap (zI_1 s)>(↑s.length:Int))then R zI_3 else bif true&&Nat.blt 0 s.length then bif decide (0≤
 i64.wrap (zI_0 s))then bif decide (0≤i64.wrap (zI_1 s))then bif (i64.wrap (zI_0 s)).toNat.ble (i64.wrap (zI_1 s)).toNat&&
 (i64.wrap (zI_1 s)).toNat.ble s.length then bif decide (0≤i64.wrap (zI_1 s))then bif (i64.wrap (zI_1 s)).toNat.ble s.length&&
 s.length.ble s.length then R (.tuple [.agg [.int u8 (↑(s.getD 0 0).toNat:Int),.str (List.take ((i64.wrap (zI_1 s)).toNat-
 (i64.wrap (zI_0 s)).toNat) (List.drop (i64.wrap (zI_0 s)).toNat s))],.str (List.take (s.length-(i64.wrap (zI_1 s)).toNat) (List.drop
 (i64.wrap (zI_1 s)).toNat s)),.int i64 0])else False else False else False else False else False else False else False else False else False
 else False else False):=by kernel_rfl
theorem rget_a0(a:UInt8)(R:V→Prop):runW Tryz.prog RP0 3 10 104 [.str [a,129]] R=
  (
 bif (↑([a,129].getD 0 0).toNat:Int).tmod 32==31 then R (.tuple [.agg [.int u8 0,.str []],.str [],.int i64 4])else R (.tuple [.agg [.int
 u8 0,.str []],.str [],.int i64 8])):=by kernel_rfl
noncomputable def zI_6(a c:UInt8)(r:List UInt8):=(0+i64.wrap (↑((a::129::c::r).getD 2 0).toNat:Int))
noncomputable def zI_4(a c:UInt8)(r:List UInt8):=(1+(↑(lenB (i64.wrap (zI_6 a c r)).toNat).length:Int))
noncomputable def zI_5(a c:UInt8)(r:List UInt8):=(i64.wrap (zI_4 a c r)+i64.wrap (zI_6 a c r))
noncomputable def zI_7:=V.tuple [V.agg [V.int u8 0,V.str []],V.str [],V.int i64 4]
theorem rget_a1(a c:UInt8)(r:List UInt8)(R:V→Prop):runW Tryz.prog RP0 3 10 104 [.str (a::129::c::r)] R=
 (
 bif (↑((a::129::c::r).getD 0 0).toNat:Int).tmod 32==31 then R zI_7 else bif i64.wrap (zI_6 a c r)==0 then R zI_7 else bif decide (0≤
 i64.wrap (zI_6 a c r))&&decide (i64.wrap (zI_6 a c r)≤65535)then bif decide (0≤i64.wrap (zI_4 a c r))then bif Nat.ble 1
 (i64.wrap (zI_4 a c r)).toNat&&(i64.wrap (zI_4 a c r)).toNat.ble (a::129::c::r).length then bif !List.take ((i64.wrap (zI_4 a c
 r)).toNat-1) (List.drop 1 (a::129::c::r))==lenB (i64.wrap (zI_6 a c r)).toNat then R zI_7 else bif decide (i64.wrap (zI_5 a c r)>(↑(a
 ::129::c::r).length:Int))then R (.tuple [.agg [.int u8 0,.str []],.str [],.int i64 8])else bif decide (0≤i64.wrap
 (zI_4 a c r))then bif decide (0≤i64.wrap (zI_5 a c r))then bif (i64.wrap (zI_4 a c r)).toNat.ble (i64.wrap (zI_5 a c r)).toNat&&
 (i64.wrap (zI_5 a c r)).toNat.ble (a::129::c::r).length then bif decide (0≤i64.wrap (zI_5 a c r))then bif (i64.wrap (zI_5 a c
 r)).toNat.ble (a::129::c::r).length&&(a::129::c::r).length.ble (a::129::c::r).length then R (.tuple [.agg [.int u8 (↑((a::129::
 c::r).getD 0 0).toNat:Int),.str (List.take ((i64.wrap (zI_5 a c r)).toNat-(i64.wrap (zI_4 a c r)).toNat) (List.drop (i64.wrap
 (zI_4 a c r)).toNat (a::129::c::r)))],.str (List.take ((a::129::c::r).length-(i64.wrap (zI_5 a c r)).toNat) (List.drop (i64.wrap
 (zI_5 a c r)).toNat (a::129::c::r))),.int i64 0])else False else False else False else False else False else False else False else False):=by kernel_rfl
theorem rget_b0(a:UInt8)(R:V→Prop):runW Tryz.prog RP0 3 10 104 [.str [a,130]] R=
  (
 bif (↑([a,130].getD 0 0).toNat:Int).tmod 32==31 then R (.tuple [.agg [.int u8 0,.str []],.str [],.int i64 4])else R (.tuple [.agg [.int
 u8 0,.str []],.str [],.int i64 8])):=by kernel_rfl
theorem rget_b1(a c:UInt8)(R:V→Prop):runW Tryz.prog RP0 3 10 104 [.str [a,130,c]] R=
  (
 bif (↑([a,130,c].getD 0 0).toNat:Int).tmod 32==31 then R (.tuple [.agg [.int u8 0,.str []],.str [],.int i64 4])else bif i64.wrap
 (0+i64.wrap (↑([a,130,c].getD 2 0).toNat:Int))==0 then R (.tuple [.agg [.int u8 0,.str []],.str [],.int i64 4])else R (.tuple
 [.agg [.int u8 0,.str []],.str [],.int i64 8])):=by kernel_rfl
noncomputable def zI_8(a c d:UInt8)(r:List UInt8):=(i64.wrap (i64.wrap (0+i64.wrap (↑((a::130::c::d::r).getD 2 0).toNat:Int))*256)+i64.wrap (↑((a::130::c::d::r).getD 3 0).toNat:Int))
noncomputable def jG(a c d:UInt8)(r:List UInt8):=(1+(↑(lenB (i64.wrap (zI_8 a c d r)).toNat).length:Int))
noncomputable def zI_9(a c d:UInt8)(r:List UInt8):=(i64.wrap (jG a c d r)+i64.wrap (zI_8 a c d r))
noncomputable def zI_11:=V.tuple [V.agg [V.int u8 0,V.str []],V.str [],V.int i64 4]
theorem rget_b2(a c d:UInt8)(r:List UInt8)(R:V→Prop):runW Tryz.prog RP0 3 10 104 [.str (a::130::c::d::r)] R=
 (
 bif (↑((a::130::c::d::r).getD 0 0).toNat:Int).tmod 32==31 then R zI_11 else bif i64.wrap (0+i64.wrap (↑((a::130::c::d::
 r).getD 2 0).toNat:Int))==0 then R zI_11 else bif i64.wrap (zI_8 a c d r)==0 then R zI_11 else bif decide (0≤i64.wrap (zI_8 a c d r))&&
 decide (i64.wrap (zI_8 a c d r)≤65535)then bif decide (0≤i64.wrap (jG a c d r))then bif Nat.ble 1 (i64.wrap (jG a c d
 r)).toNat&&(i64.wrap (jG a c d r)).toNat.ble (a::130::c::d::r).length then bif !List.take ((i64.wrap (jG a c d r)).toNat-1)
 (List.drop 1 (a::130::c::d::r))==lenB (i64.wrap (zI_8 a c d r)).toNat then R zI_11 else bif decide (i64.wrap (zI_9 a c d r)>(↑(a::
 130::c::d::r).length:Int))then R (.tuple [.agg [.int u8 0,.str []],.str [],.int i64 8])else bif decide (0≤i64.wrap
 (jG a c d r))then bif decide (0≤i64.wrap (zI_9 a c d r))then bif (i64.wrap (jG a c d r)).toNat.ble (i64.wrap (zI_9 a c d
 r)).toNat&&(i64.wrap (zI_9 a c d r)).toNat.ble (a::130::c::d::r).length then bif decide (0≤i64.wrap (zI_9 a c d r))then bif
 (i64.wrap (zI_9 a c d r)).toNat.ble (a::130::c::d::r).length&&(a::130::c::d::r).length.ble (a::130::c::d::r).length then R
 (.tuple [.agg [.int u8 (↑((a::130::c::d::r).getD 0 0).toNat:Int),.str (List.take ((i64.wrap (zI_9 a c d r)).toNat-
 (i64.wrap (jG a c d r)).toNat) (List.drop (i64.wrap (jG a c d r)).toNat (a::130::c::d::r)))],.str (List.take ((a::130::c::d
 ::r).length-(i64.wrap (zI_9 a c d r)).toNat) (List.drop (i64.wrap (zI_9 a c d r)).toNat (a::130::c::d::r))),.int i64 0])
 else False else False else False else False else False else False else False else False):=by kernel_rfl
theorem rput_ok(args:List V)(l:List (Bool×(V×St)))(o:V×St)(h:putF args=some l)(ho:az l=some o):FnSat Tryz.prog 167 args [] (Is o):=by
 unfold putF at h;split at h
 ·rename_i t s;cases h;obtain⟨hk,rfl⟩:=aJ ho;obtain⟨n,rfl,hn⟩:=km hk;refine ax (lim:=9) (n:=10) mixed mC rfl rfl ?_;rw[rput_tree,IntWalk.i64_in (n:Int) ⟨by omega,by omega⟩,r7,Int.toNat_natCast];refine ab (fun h=>?_) (fun h=>ab (fun h1=>?_) (fun h1=>?_))
  ·have:(n:Int)%32=31:=by
    have:=beq_iff_eq.1 h;rwa [Int.tmod_eq_emod_of_nonneg (by omega)]at this
   simp[putB,putE,this]
  ·have h0:¬(n:Int)%32=31:=by
    intro e;rw[Int.tmod_eq_emod_of_nonneg (by omega),e]at h;cases h
   have h1:=of_decide_eq_true h1;have h1:s.length>65535:=by omega
   simp[putB,putE,h0,h1]
  ·have h0:¬(n:Int)%32=31:=by
    intro e;rw[Int.tmod_eq_emod_of_nonneg (by omega),e]at h;cases h
   have h1:=of_decide_eq_false h1;have h1:¬s.length>65535:=by omega
   have hL:=lp s.length;refine aa (by rw[Bool.true_and];exact decide_eq_true (by omega)) (aa (Nat.ble_eq_true_of_le (by omega)) (aa (Nat.ble_eq_true_of_le (by simp;omega)) ?_));simp[putB,putE,h0,h1]
 ·cases h
def gv(s:List UInt8):V:=.tuple [.agg [.int .u8 (bw s),.str (am s)],.str (bP s),.int .i64 (aQ s)]
theorem dm{s:List UInt8}{e:Int}(h:aQ s=e)(he:e≠0):V.tuple [.agg [.int .u8 0,.str []],.str [],.int .i64 e]=gv s:=by
 have h0:¬aQ s=0:=by rw[h];exact he
 unfold gv bw am bP;rw[if_neg h0,if_neg h0,if_neg h0,h]
theorem fu{a:UInt8}{r:List UInt8}{n u:Nat}{e:Int}(h:¬a.toNat%32=31)(hz:bO r=(n,u,e))(he:e≠0):aQ (a::r)=e:=by
 have:dq r=e:=by unfold dq;rw[hz]
 simp only[aQ];rw[if_neg h,if_neg (by rw[this];exact he),this]
theorem get_short{a:UInt8}{r:List UInt8}{n u:Nat}(h:¬a.toNat%32=31)(hz:bO r=(n,u,0))(hl:r.length<u+n)(hb:r.length≤1099511627776):aQ (a::r)=8:=by
 have e1:dq r=0:=by unfold dq;rw[hz]
 have e2:bH r=u:=by unfold bH;rw[hz]
 have e3:cj r=n:=by unfold cj;rw[hz]
 have hs:=gd r;simp only[aQ];rw[if_neg h,if_pos e1,if_pos];rw[e2]at hs ⊢;rw[e3]at hs ⊢;rw[IntWalk.i64_in _ ⟨by omega,by omega⟩];omega
theorem gv_mk{a:UInt8}{r:List UInt8}{n u:Nat}(h:¬a.toNat%32=31)(hz:bO r=(n,u,0))(hl:u+n≤r.length)(hb:r.length≤1099511627776):gv (a::r)=.tuple [.agg [.int .u8 a.toNat,.str ((r.drop u).take n)],.str ((r.drop u).drop n),.int .i64 0]:=by
 have e1:dq r=0:=by unfold dq;rw[hz]
 have e2:bH r=u:=by unfold bH;rw[hz]
 have e3:cj r=n:=by unfold cj;rw[hz]
 have hs:=gd r;have hE:aQ (a::r)=0:=by
  simp only[aQ];rw[if_neg h,if_pos e1,if_neg];rw[e2]at hs ⊢;rw[e3]at hs ⊢;rw[IntWalk.i64_in _ ⟨by omega,by omega⟩];omega
 unfold gv bw am bP;rw[if_pos hE,if_pos hE,if_pos hE,hE];show V.tuple [.agg [.int .u8 a.toNat,.str ((r.drop (bH r)).take (cj r))],.str ((r.drop (bH r)).drop (cj r)),.int .i64 0]=_;rw[e2,e3]
def rgetT:List V→Option (List (Bool×(V×St)))
 |[.str s]=>some [(au s,(gv s,[]))]
 |_=>none
theorem tl_ok{x y b1 b2 b3 b5 b6 b7 b8 b9:Bool}{F S G:Prop}(h1:b1=true)(h2:b2=true)(h3:b3=true)(hF:x=true→F)(hS:x=false→y=true→S)(hG:x=false→y=false→b5=true∧b6=true∧b7=true∧b8=true∧b9=true∧G):
  must b1 (must b2 (must b3 (bif x then F else bif y then S else must b5 (must b6 (must b7 (must b8 (must b9 G))))))):=by
 refine aa h1 (aa h2 (aa h3 (ab hF (fun hx=>ab (hS hx) (fun hy=>?_)))));obtain⟨g1,g2,g3,g4,g5,g6⟩:=hG hx hy;exact aa g1 (aa g2 (aa g3 (aa g4 (aa g5 g6))))
theorem nR{a:UInt8}{r:List UInt8}{n L:Nat}(h:¬a.toNat%32=31)(hb:r.length≤1099511627776)(hn:n≤65535)(hL:L=(lenB n).length)(hr:r.take L=lenB n)(hW:1+L+n≤r.length+1):
  V.tuple [.agg [.int .u8 a.toNat,.str (List.take (1+L+n-(1+L)) (List.drop (1+L) (a::r)))],.str (List.take ((a::r).length-(1+L+n)) (List.drop (1+L+n) (a::r))),.int .i64 0]=gv (a::r):=by
 have hz:bO r=(n,L,0):=by
  have:=nU n hn (r.drop L);rw[←hr,List.take_append_drop,hr,←hL]at this;exact this
 rw[gv_mk h hz (by omega) hb];have d1:List.drop (1+L) (a::r)=r.drop L:=by rw[Nat.add_comm 1 L];rfl
 have d2:List.drop (1+L+n) (a::r)=(r.drop L).drop n:=by rw[List.drop_drop,show 1+L+n=(L+n)+1 by omega];rfl
 have d3:List.take ((a::r).length-(1+L+n)) ((r.drop L).drop n)=(r.drop L).drop n:=List.take_of_length_le (by simp;omega);rw[d1,d2,d3,show 1+L+n-(1+L)=n by omega]
theorem jX{a:UInt8}{r:List UInt8}{n L:Nat}(h:¬a.toNat%32=31)(hb:r.length≤1099511627776)(hn:n≤65535)(hL:L=(lenB n).length)(hr:r.take L=lenB n)(hW:r.length+1<1+L+n):
  V.tuple [.agg [.int .u8 0,.str []],.str [],.int .i64 8]=gv (a::r):=by
 have hz:bO r=(n,L,0):=by
  have:=nU n hn (r.drop L);rw[←hr,List.take_append_drop,hr,←hL]at this;exact this
 exact dm (get_short h hz (by omega) hb) (by omega)
theorem mQ{a:UInt8}:((a.toNat:Int).tmod 32==31)=true↔a.toNat%32=31:=by
 rw[Int.tmod_eq_emod_of_nonneg (by omega),beq_iff_eq];omega
theorem iU{a:UInt8}(h:((a.toNat:Int).tmod 32==31)=false):¬a.toNat%32=31:=fun e=>by
 rw[mQ.2 e]at h;cases h
theorem rget_ok(args:List V)(l:List (Bool×(V×St)))(o:V×St)(h:rgetT args=some l)(ho:az l=some o):FnSat Tryz.prog 104 args [] (Is o):=by
 unfold rgetT at h;split at h
 ·rename_i s;cases h;obtain⟨hk,rfl⟩:=aJ ho;have hb:=of_decide_eq_true hk
  -- the forms that the loop is come to
  by_cases h9:∃a r,s=a::129::r
  ·obtain⟨a,r,rfl⟩:=h9;cases r with
   |nil=>
    refine ax (lim:=3) (n:=10) mixed mC rfl rfl ?_;rw[rget_a0];refine ab (fun h=>dm ?_ (by omega)) (fun h=>dm ?_ (by omega))
    ·simp only[aQ];rw[if_pos ((mQ (a:=a)).1 h)]
    ·exact fu (iU (a:=a) h) (n:=0) (u:=0) rfl (by omega)
   |cons c r=>
    have hc:=c.toNat_lt;have hL:=lp c.toNat;refine ax (lim:=3) (n:=10) mixed mC rfl rfl ?_;rw[rget_a1];unfold zI_7 zI_5 zI_4 zI_6;have g2:(a::129::c::r).getD 2 0=c:=rfl;have g0:(a::129::c::r).getD 0 0=a:=rfl;have w0:i64.wrap (0+i64.wrap (c.toNat:Int))=c.toNat:=by
     rw[IntWalk.i64_in (c.toNat:Int) ⟨by omega,by omega⟩,Int.zero_add,IntWalk.i64_in _ ⟨by omega,by omega⟩]
    have w1:i64.wrap (1+((lenB c.toNat).length:Int))=((1+(lenB c.toNat).length:Nat):Int):=by rw[IntWalk.i64_in _ ⟨by omega,by omega⟩];omega
    have w2:i64.wrap (((1+(lenB c.toNat).length:Nat):Int)+(c.toNat:Int))=((1+(lenB c.toNat).length+c.toNat:Nat):Int):=by rw[IntWalk.i64_in _ ⟨by omega,by omega⟩];omega
    simp only[g2,g0,w0,w1,w2,Int.toNat_natCast];refine ab (fun h=>dm ?_ (by omega)) (fun h=>?_)
    ·simp only[aQ];rw[if_pos ((mQ (a:=a)).1 h)]
    have h31:=iU (a:=a) h;have hsz:bO (129::c::r)=if c.toNat≤127 then(0,0,4)else(c.toNat,2,0):=rfl
    refine ab (fun h0=>dm ?_ (by omega)) (fun h0=>?_)
    ·have h0:c.toNat=0:=by have:=beq_iff_eq.1 h0;omega
     exact fu h31 (n:=0) (u:=0) (by rw[hsz,if_pos (by omega)]) (by omega)
    refine tl_ok (by simp only[Bool.and_eq_true,decide_eq_true_eq];omega) (decide_eq_true (by omega)) (by rw[Bool.and_eq_true];exact⟨Nat.ble_eq_true_of_le (by omega),Nat.ble_eq_true_of_le (by by_cases q:c.toNat≤127<;>simp[lenB]<;>(repeat' split)<;>simp<;>omega)⟩) (fun hf=>dm ?_ (by omega)) (fun hf hw=>?_) (fun hf hw=>?_)
    ·by_cases q:c.toNat≤127
     ·exact fu h31 (n:=0) (u:=0) (by rw[hsz,if_pos q]) (by omega)
     ·exfalso;have e:lenB c.toNat=[129,c]:=by unfold lenB;rw[if_neg (by omega),if_pos (by omega)];simp
      rw[e]at hf;simp at hf
    ·have hr:(129::c::r).take (lenB c.toNat).length=lenB c.toNat:=by
      have:=by simpa using hf
      simpa using this
     have hw:=of_decide_eq_true hw;exact jX h31 (by simp at hb ⊢;omega) (by omega) rfl hr (by simp at hw ⊢;omega)
    ·have hr:(129::c::r).take (lenB c.toNat).length=lenB c.toNat:=by
      have:=by simpa using hf
      simpa using this
     have hw:=of_decide_eq_false hw;refine⟨decide_eq_true (by omega),decide_eq_true (by omega),?_,decide_eq_true (by omega),?_,nR h31 (by simp at hb ⊢;omega) (by omega) rfl hr (by simp at hw ⊢;omega)⟩
     ·rw[Bool.and_eq_true];exact⟨Nat.ble_eq_true_of_le (by omega),Nat.ble_eq_true_of_le (by omega)⟩
     ·rw[Bool.and_eq_true];exact⟨Nat.ble_eq_true_of_le (by omega),Nat.ble_eq_true_of_le (by omega)⟩
  by_cases h10:∃a r,s=a::130::r
  ·obtain⟨a,r,rfl⟩:=h10
   match r,hb with
   |[],hb=>
    refine ax (lim:=3) (n:=10) mixed mC rfl rfl ?_;rw[rget_b0];refine ab (fun h=>dm ?_ (by omega)) (fun h=>dm ?_ (by omega))
    ·simp only[aQ];rw[if_pos ((mQ (a:=a)).1 h)]
    ·exact fu (iU (a:=a) h) (n:=0) (u:=0) rfl (by omega)
   |[c],hb=>
    have hc:=c.toNat_lt;refine ax (lim:=3) (n:=10) mixed mC rfl rfl ?_;rw[rget_b1];have g2:[a,130,c].getD 2 0=c:=rfl;have g0:[a,130,c].getD 0 0=a:=rfl;have w0:i64.wrap (0+i64.wrap (c.toNat:Int))=c.toNat:=by
     rw[IntWalk.i64_in (c.toNat:Int) ⟨by omega,by omega⟩,Int.zero_add,IntWalk.i64_in _ ⟨by omega,by omega⟩]
    rw[g2,g0,w0];have hsz:bO [130,c]=if c.toNat=0 then(0,0,4)else(0,0,8):=rfl
    refine ab (fun h=>dm ?_ (by omega)) (fun h=>ab (fun h0=>dm ?_ (by omega)) (fun h0=>dm ?_ (by omega)))
    ·simp only[aQ];rw[if_pos ((mQ (a:=a)).1 h)]
    ·exact fu (iU (a:=a) h) (n:=0) (u:=0) (by rw[hsz,if_pos (by have:=beq_iff_eq.1 h0;omega)]) (by omega)
    ·exact fu (iU (a:=a) h) (n:=0) (u:=0) (by rw[hsz,if_neg (by have:=beq_eq_false_iff_ne.1 h0;omega)]) (by omega)
   |c::d::r,hb=>
    have hc:=c.toNat_lt;have hd:=d.toNat_lt;have hL:=lp (c.toNat*256+d.toNat);refine ax (lim:=3) (n:=10) mixed mC rfl rfl ?_;rw[rget_b2];unfold zI_11 zI_9 jG zI_8;have g3:(a::130::c::d::r).getD 3 0=d:=rfl;have g2:(a::130::c::d::r).getD 2 0=c:=rfl;have g0:(a::130::c::d::r).getD 0 0=a:=rfl;have w0:i64.wrap (0+i64.wrap (c.toNat:Int))=c.toNat:=by
     rw[IntWalk.i64_in (c.toNat:Int) ⟨by omega,by omega⟩,Int.zero_add,IntWalk.i64_in _ ⟨by omega,by omega⟩]
    have w3:i64.wrap (i64.wrap ((c.toNat:Int)*256)+i64.wrap (d.toNat:Int))=((c.toNat*256+d.toNat:Nat):Int):=by
     rw[IntWalk.i64_in (d.toNat:Int) ⟨by omega,by omega⟩,IntWalk.i64_in ((c.toNat:Int)*256) ⟨by omega,by omega⟩,IntWalk.i64_in _ ⟨by omega,by omega⟩];omega
    simp only[g3,g2,g0,w0,w3];generalize hm:c.toNat*256+d.toNat=m at*
    have w1:i64.wrap (1+((lenB m).length:Int))=((1+(lenB m).length:Nat):Int):=by rw[IntWalk.i64_in _ ⟨by omega,by omega⟩];omega
    have w2:i64.wrap (((1+(lenB m).length:Nat):Int)+(m:Int))=((1+(lenB m).length+m:Nat):Int):=by rw[IntWalk.i64_in _ ⟨by omega,by omega⟩];omega
    simp only[w1,w2,Int.toNat_natCast];refine ab (fun h=>dm ?_ (by omega)) (fun h=>?_)
    ·simp only[aQ];rw[if_pos ((mQ (a:=a)).1 h)]
    have h31:=iU (a:=a) h;have hsz:bO (130::c::d::r)=if c.toNat=0 then(0,0,4)else(c.toNat*256+d.toNat,3,0):=rfl
    refine ab (fun h0=>dm ?_ (by omega)) (fun h0=>?_)
    ·exact fu h31 (n:=0) (u:=0) (by rw[hsz,if_pos (by have:=beq_iff_eq.1 h0;omega)]) (by omega)
    have h0:c.toNat≠0:=by have:=beq_eq_false_iff_ne.1 h0;omega
    refine ab (fun h1=>?_) (fun h1=>?_)
    ·exfalso;have:=beq_iff_eq.1 h1;omega
    have eL:lenB m=[130,c,d]:=by
     unfold lenB;rw[if_pos (by omega)];have e1:m/256=c.toNat:=by omega
     rw[e1];have e2:UInt8.ofNat m=d:=by
      apply UInt8.toNat_inj.1;simp only[UInt8.toNat_ofNat'];omega
     rw[e2];simp
    have hr:(130::c::d::r).take (lenB m).length=lenB m:=by rw[eL];rfl
    have eL3:(lenB m).length=3:=by rw[eL];rfl
    refine tl_ok (by simp only[Bool.and_eq_true,decide_eq_true_eq];omega) (decide_eq_true (by omega)) (by rw[Bool.and_eq_true];exact⟨Nat.ble_eq_true_of_le (by omega),Nat.ble_eq_true_of_le (by rw[eL3];simp)⟩) (fun hf=>?_) (fun hf hw=>?_) (fun hf hw=>?_)
    ·exfalso;rw[show 1+(lenB m).length-1=(lenB m).length by omega]at hf;have e:List.take (lenB m).length (List.drop 1 (a::130::c::d::r))=lenB m:=hr;rw[e]at hf;simp at hf
    ·have hw:=of_decide_eq_true hw;exact jX h31 (by simp at hb ⊢;omega) (by omega) rfl hr (by simp at hw ⊢;omega)
    ·have hw:=of_decide_eq_false hw;refine⟨decide_eq_true (by omega),decide_eq_true (by omega),?_,decide_eq_true (by omega),?_,nR h31 (by simp at hb ⊢;omega) (by omega) rfl hr (by simp at hw ⊢;omega)⟩
     ·rw[Bool.and_eq_true];exact⟨Nat.ble_eq_true_of_le (by omega),Nat.ble_eq_true_of_le (by omega)⟩
     ·rw[Bool.and_eq_true];exact⟨Nat.ble_eq_true_of_le (by omega),Nat.ble_eq_true_of_le (by omega)⟩
  refine ax (lim:=3) (n:=10) mixed RP2_ok rfl rfl ?_;rw[rget_g];unfold zI_3 zI_2 zI_1 zI_0
  match s,hb,h9,h10 with
  |[],_,_,_=>exact dm (s:=[]) rfl (by omega)
  |[a],_,_,_=>
   have ha:=a.toNat_lt;have b0:(([a]:List UInt8)==[])=false:=rfl;have b1:(true&&Nat.blt 0 [a].length)=true:=rfl;have b2:(([a].length:Int)==1)=true:=rfl;simp only[b0,b1,b2,cond_true,cond_false];refine ab (fun h=>dm ?_ (by omega)) (fun h=>dm ?_ (by omega))
   ·simp only[aQ];rw[if_pos ((mQ (a:=a)).1 h)]
   ·exact fu (iU (a:=a) h) (n:=0) (u:=0) rfl (by omega)
  |a::b::r,hb,h9,h10=>
   have hbb:=b.toNat_lt;have n9:b≠129:=fun e=>h9 ⟨a,r,by rw[e]⟩;have n10:b≠130:=fun e=>h10 ⟨a,r,by rw[e]⟩;have n9:b.toNat≠129:=fun e=>n9 (UInt8.toNat_inj.1 e);have n10:b.toNat≠130:=fun e=>n10 (UInt8.toNat_inj.1 e);have g1:(a::b::r).getD 1 0=b:=rfl;have g0:(a::b::r).getD 0 0=a:=rfl;have b0:((a::b::r)==[])=false:=rfl;have b1:(true&&Nat.blt 0 (a::b::r).length)=true:=rfl;have b2:(((a::b::r).length:Int)==1)=false:=beq_false_of_ne (by simp;omega);have b3:(true&&Nat.blt 1 (a::b::r).length)=true:=rfl;have w0:i64.wrap (b.toNat:Int)=b.toNat:=IntWalk.i64_in _ ⟨by omega,by omega⟩;simp only[g0,g1,b0,b1,b2,b3,w0,cond_true,cond_false,Int.toNat_natCast];refine ab (fun h=>dm ?_ (by omega)) (fun h=>?_)
   ·simp only[aQ];rw[if_pos ((mQ (a:=a)).1 h)]
   have h31:=iU (a:=a) h;have hsz:¬b.toNat≤127→bO (b::r)=(0,0,4):=fun q=>by
    cases r with
    |nil=>simp only[bO];rw[if_neg q,if_neg n9,if_neg n10]
    |cons c r=>cases r<;>(simp only[bO];rw[if_neg q,if_neg n9,if_neg n10])
   refine ab (fun h1=>dm ?_ (by omega)) (fun h1=>ab (fun h2=>dm ?_ (by omega)) (fun h2=>ab (fun h3=>?_) (fun h3=>?_)))
   ·exact fu h31 (hsz (by have:=beq_iff_eq.1 h1;omega)) (by omega)
   ·exact fu h31 (hsz (by have:=of_decide_eq_true h2;omega)) (by omega)
   ·exfalso;have:=of_decide_eq_true h3;have:=of_decide_eq_false h2;omega
   have hq:b.toNat≤127:=by
    have:=of_decide_eq_false h3;have:=beq_eq_false_iff_ne.1 h1;omega
   have eL:lenB b.toNat=[b]:=by unfold lenB;rw[if_neg (by omega),if_neg (by omega)];simp
   have w1:i64.wrap (1+((lenB b.toNat).length:Int))=((1+(lenB b.toNat).length:Nat):Int):=by rw[eL];rfl
   have w2:i64.wrap (((1+(lenB b.toNat).length:Nat):Int)+(b.toNat:Int))=((1+(lenB b.toNat).length+b.toNat:Nat):Int):=by rw[eL,IntWalk.i64_in _ ⟨by simp;omega,by simp;omega⟩];simp
   simp only[w1,w2,Int.toNat_natCast];have hr:(b::r).take (lenB b.toNat).length=lenB b.toNat:=by rw[eL];rfl
   have eL1:(lenB b.toNat).length=1:=by rw[eL];rfl
   refine tl_ok (by simp only[Bool.and_eq_true,decide_eq_true_eq];omega) (decide_eq_true (by omega)) (by rw[Bool.and_eq_true];exact⟨Nat.ble_eq_true_of_le (by omega),Nat.ble_eq_true_of_le (by rw[eL1];simp)⟩) (fun hf=>?_) (fun hf hw=>?_) (fun hf hw=>?_)
   ·exfalso;rw[show 1+(lenB b.toNat).length-1=(lenB b.toNat).length by omega]at hf;have e:List.take (lenB b.toNat).length (List.drop 1 (a::b::r))=lenB b.toNat:=hr;rw[e]at hf;simp at hf
   ·have hw:=of_decide_eq_true hw;exact jX h31 (by simp at hb ⊢;omega) (by omega) rfl hr (by simp at hw ⊢;omega)
   ·have hw:=of_decide_eq_false hw;refine⟨decide_eq_true (by omega),decide_eq_true (by omega),?_,decide_eq_true (by omega),?_,nR h31 (by simp at hb ⊢;omega) (by omega) rfl hr (by simp at hw ⊢;omega)⟩
    ·rw[Bool.and_eq_true];exact⟨Nat.ble_eq_true_of_le (by omega),Nat.ble_eq_true_of_le (by omega)⟩
    ·rw[Bool.and_eq_true];exact⟨Nat.ble_eq_true_of_le (by omega),Nat.ble_eq_true_of_le (by omega)⟩
 ·cases h
noncomputable def RA0:Tab:=⟨addT noT 104 rgetT,noL,aL 9⟩
theorem RA0_ok:TabOk3 Tryz.prog RA0:=⟨aE aA rget_ok,aB,ak 9⟩
theorem ra_round0(s:List UInt8)(R:Exit→List (Option V)→St→Prop):ah Tryz.prog RA0 9 10 (ad 9) 105 28 [0,2,3,4] [.str s,.nilSlice,.int .i64 0,.nilSlice] [] R=
  (
 bif decide ((↑s.length:Int)>0)then bif au s then bif aQ s !=0 then R .ret [some (.str s),some .nilSlice,some (.int i64 (aQ s)),some
 .nilSlice] [.row [.int u8 (bw s),.str (am s)] 135 2]else R .normal [some (.str (bP s)),some .nilSlice,some (.int i64 0),some
 (.slice 2 0 1 false 0 0)] [.row [.int u8 (bw s),.str (am s)] 135 2,.row [.int u8 (bw s),.str (am s)] 135 2,.row [.int
 u8 (bw s),.str (am s)] 135 2]else False else R (.exit 0) [some (.str s),some .nilSlice,some (.int i64 0),some .nilSlice] []):=by kernel_rfl
theorem ra_round1(s:List UInt8)(o:List V)(n:Nat)(R:Exit→List (Option V)→St→Prop):ah Tryz.prog RA0 9 10 (ad 9) 105 28 [0,2,3,4] [.str s,.nilSlice,.int .i64 0,.slice 0 0 n false 0 0] [.row o 135 2] R=
  (
 bif decide ((↑s.length:Int)>0)then bif au s then bif aQ s !=0 then R .ret [some (.str s),some .nilSlice,some (.int i64 (aQ s)),some
 (.slice 0 0 n false 0 0)] [.row o 135 2,.row [.int u8 (bw s),.str (am s)] 135 2]else bif (↑n:Int)==64 then R .ret [some (.str s),some
 .nilSlice,some (.int i64 40),some (.slice 0 0 n false 0 0)] [.row o 135 2,.row [.int u8 (bw s),.str (am s)] 135 2]else bif
 o.length.beq (n*2)then bif (n+1).ble 9223372036854775807&&((n+1)*24).ble 140737488355328 then R .normal [some (.str (bP s)),some .nilSlice,some
 (.int i64 0),some (.slice 3 0 (n+1) false 0 0)] [.dead,.row [.int u8 (bw s),.str (am s)] 135 2,.row [.int u8 (bw s),
 .str (am s)] 135 2,.row (o++[V.int u8 (bw s),V.str (am s)]) 135 2]else False else False else False else R (.exit 0) [some (.str s),some
 .nilSlice,some (.int i64 0),some (.slice 0 0 n false 0 0)] [.row o 135 2]):=by kernel_rfl
def raSl:List IT→V
 |[]=>.nilSlice
 |h::t=>.slice 0 0 (h::t).length false 0 0
def raRw:List IT→St
 |[]=>[]
 |h::t=>[.row (aq (h::t)) 135 2]
def raV(x:AL):List V:=[.str x.s,.nilSlice,.int .i64 0,raSl x.acc]
def raJ(x:AL):St:=raRw x.acc
def mI(x:AL):Bool:=ne x&&au x.s
noncomputable def raOut:Asks AL:=fun x K=>
 (s6 x→K (.exit 0) [.str [],.nilSlice,.int .i64 0,.nilSlice] [])∧
 (∀o n,s4 x o n→K (.exit 0) [.str [],.nilSlice,.int .i64 0,.slice 0 0 n false 0 0] [.row o 135 2])∧
 (∀e,alErr x e→(∀s',K .ret [.str s',.nilSlice,.int .i64 e,.nilSlice] [])∧∀s' n,K .ret [.str s',.nilSlice,.int .i64 e,.slice 0 0 n false 0 0] [.dead])
theorem oB(s:List UInt8)(e:Int)(acc:List IT)(b L:Nat)(hL:L=acc.length){st:St}(hb:st[b]?=some (.row (aq acc) 135 2)):
  Fits 0 [.str s,.nilSlice,.int .i64 e,.slice 0 0 acc.length false 0 0] [.row (aq acc) 135 2] [some (.str s),some .nilSlice,some (.int .i64 e),some (.slice b 0 L false 0 0)] st:=by
 subst hL;exact⟨[b],[.str s,.nilSlice,.int .i64 e,.slice b 0 acc.length false 0 0],rfl,rfl,FitsM.of ⟨.inr ⟨_,.inl (by simp only[renB,ez]),hb⟩,trivial⟩,by simp,fun i hi=>by omega⟩
theorem oC(s:List UInt8)(e:Int)(st:St):Fits 0 [.str s,.nilSlice,.int .i64 e,.nilSlice] [] [some (.str s),some .nilSlice,some (.int .i64 e),some .nilSlice] st:=
 ⟨[],[.str s,.nilSlice,.int .i64 e,.nilSlice],rfl,rfl,FitsM.of trivial,by simp,fun i hi=>by omega⟩
theorem ra_fitsD(s:List UInt8)(e:Int)(n:Nat)(st:St):Fits 0 [.str s,.nilSlice,.int .i64 e,.slice 0 0 n false 0 0] [.dead] [some (.str s),some .nilSlice,some (.int .i64 e),some (.slice 0 0 n false 0 0)] st:=
 ⟨[0],[.str s,.nilSlice,.int .i64 e,.slice 0 0 n false 0 0],rfl,rfl,FitsM.of ⟨.inl rfl,trivial⟩,by simp,fun i hi=>by omega⟩
theorem okLen_R{s:List UInt8}(h:au s=true):au (bP s)=true:=by
 unfold au at*
 have h:=of_decide_eq_true h;refine decide_eq_true ?_;unfold bP;split
 ·simp;omega
 ·simp
theorem ra_round(x:AL)(hx:mI x=true):ah Tryz.prog RA0 9 10 (ad 9) 105 28 [0,2,3,4] (raV x) (raJ x) (ay 0 mI raV raJ alMu raOut x):=by
 obtain⟨s,acc⟩:=x;unfold mI at hx;rw[Bool.and_eq_true]at hx;have p1:acc.length≤64:=of_decide_eq_true hx.1;have p2:au s=true:=hx.2;have again:s≠[]→aQ s=0→acc.length≠64→∀K,raOut ⟨s,acc⟩ K→raOut ⟨bP s,acc++[(bw s,am s)]⟩ K:=by
  intro hs h0 ha K hK;have hg:=alF_step hs h0 ha;refine⟨fun he=>hK.1 (hg.trans he),fun o n he=>hK.2.1 o n ?_,fun e he=>hK.2.2 e ⟨he.1,hg.trans he.2⟩⟩;obtain⟨h,t,e1,e2,e3⟩:=he;exact⟨h,t,e1,e2,hg.trans e3⟩
 have pre2:acc.length≠64→mI ⟨bP s,acc++[(bw s,am s)]⟩=true:=by
  intro h;unfold mI;rw[Bool.and_eq_true];refine⟨?_,okLen_R p2⟩;simp only[ne,decide_eq_true_eq,List.length_append,List.length_cons,List.length_nil];omega
 have pos:s≠[]→decide ((s.length:Int)>0)=true:=fun hs=>decide_eq_true (by have:=List.length_pos_iff.2 hs;omega);cases acc with
 |nil=>
  show ah Tryz.prog RA0 9 10 (ad 9) 105 28 [0,2,3,4] [.str s,.nilSlice,.int .i64 0,.nilSlice] [] _;rw[ra_round0,p2,cond_true];by_cases hs:s=[]
  ·subst hs;exact⟨_,_,fun K hK=>hK.1 rfl,oC [] 0 _⟩
  ·rw[pos hs,cond_true];by_cases h0:aQ s=0
   ·have e3:(aQ s !=0)=false:=by simp[h0]
    rw[e3,cond_false];refine⟨⟨bP s,[]++[(bw s,am s)]⟩,pre2 (by simp),?_,fF hs,again hs h0 (by simp)⟩;exact oB (bP s) 0 [(bw s,am s)] 2 1 rfl rfl
   ·have e3:(aQ s !=0)=true:=by simp[h0]
    rw[e3,cond_true];exact⟨_,_,fun K hK=>(hK.2.2 _ ⟨h0,nF hs h0 []⟩).1 s,oC s _ _⟩
 |cons h t=>
  show ah Tryz.prog RA0 9 10 (ad 9) 105 28 [0,2,3,4] [.str s,.nilSlice,.int .i64 0,.slice 0 0 (h::t).length false 0 0] [.row (aq (h::t)) 135 2] _;rw[ra_round1,p2,cond_true];by_cases hs:s=[]
  ·subst hs;exact⟨_,_,fun K hK=>hK.2.1 _ _ ⟨h,t,rfl,rfl,rfl⟩,oB [] 0 (h::t) 0 _ rfl rfl⟩
  ·rw[pos hs,cond_true];by_cases h0:aQ s=0
   ·have e3:(aQ s !=0)=false:=by simp[h0]
    rw[e3,cond_false];by_cases ha:(h::t).length=64
    ·have e4:(((h::t).length:Int)==64)=true:=by rw[ha];rfl
     rw[e4,cond_true];exact⟨_,_,fun K hK=>(hK.2.2 40 ⟨by omega,alF_full hs h0 ha⟩).2 s _,ra_fitsD s _ _ _⟩
    ·have e4:(((h::t).length:Int)==64)=false:=by
      cases hb:(((h::t).length:Int)==64)with
      |false=>rfl
      |true=>exact absurd (by have:=beq_iff_eq.1 hb;omega) ha
     rw[e4,cond_false];have e5:(aq (h::t)).length.beq ((h::t).length*2)=true:=by rw[dW];exact Nat.beq_refl _
     have e6:(((h::t).length+1).ble 9223372036854775807&&(((h::t).length+1)*24).ble 140737488355328)=true:=by
      rw[Bool.and_eq_true];exact⟨Nat.ble_eq_true_of_le (by omega),Nat.ble_eq_true_of_le (by omega)⟩
     rw[e5,e6,cond_true,cond_true];have e7:aq (h::t)++[V.int .u8 (bw s),V.str (am s)]=aq (h::(t++[(bw s,am s)])):=kF (h::t) (bw s,am s);rw[e7];refine⟨⟨bP s,(h::t)++[(bw s,am s)]⟩,pre2 ha,?_,fF hs,again hs h0 ha⟩;exact oB (bP s) 0 (h::(t++[(bw s,am s)])) 3 _ (by simp) rfl
   ·have e3:(aQ s !=0)=true:=by simp[h0]
    rw[e3,cond_true];exact⟨_,_,fun K hK=>(hK.2.2 _ ⟨h0,nF hs h0 (h::t)⟩).2 s _,ra_fitsD s _ _ _⟩
def raDec:List (Option V)→St→Option AL
 |[some (.str s),some .nilSlice,some (.int .i64 0),some .nilSlice],_=>some ⟨s,[]⟩
 |_,_=>none
noncomputable def lkRA:Nat→Trans→Trans:=aR 28 (br 0 (szOf Tryz.prog 105) [0,2,3,4] raDec mI raV raJ raOut) (ad 9)
theorem lkRA_ok:aD Tryz.prog 0 lkRA 105:=by
 unfold lkRA;exact bo (aP 9 0 105) (by kernel_rfl) fun f st Q h=>aU (P:=Tryz.prog) (T:=RA0) (k:=0) (lim:=9) (n:=10) (g:=105) (p0:=28) (lk:=ad 9) mixed RA0_ok (aS 9 _ _) alMu ra_round h
noncomputable def RA1:Tab:=⟨noT,noL,cn (aL 9) 105 0 lkRA⟩
theorem RA1_ok:TabOk3 Tryz.prog RA1:=⟨aA,aB,bc (ak 9) lkRA_ok⟩
theorem rall_tree(s:List UInt8)(R:V→St→Prop):runM Tryz.prog RA1 9 10 105 [.str s] R=
  (
 Fits 0 [.str s,.nilSlice,.int i64 0,.nilSlice] [] [some (.str s),some .nilSlice,some (.int i64 0),some .nilSlice] []∧bif mI {s:=s,acc:=[]}
 then(s6 {s:=s,acc:=[]}→R (.tuple [.nilSlice,.int i64 0]) [])∧(∀(o:List V) (n:Nat),s4 {s:=s,acc:=[]} o n→R (.tuple [.slice
 0 0 n false 0 0,.int i64 0]) [.row o 135 2])∧∀(e:Int),alErr {s:=s,acc:=[]} e→(∀(s':List UInt8),R (.tuple [.nilSlice,.int i64
 e]) [])∧∀(s':List UInt8) (n:Nat),R (.tuple [.nilSlice,.int i64 e]) [.dead]else False):=by kernel_rfl
def iN(s:List UInt8):V×St:=match allI s with
 |[]=>(.tuple [.nilSlice,.int .i64 (allE s)],[])
 |h::t=>(.tuple [.slice 0 0 (h::t).length false 0 0,.int .i64 (allE s)],[.row (aq (h::t)) 135 2])
theorem rall_sat(s:List UInt8)(hk:au s=true):FnSat Tryz.prog 105 [.str s] [] (Is (iN s)):=by
 refine FnSat.fits (dj (lim:=9) (n:=10) mixed RA1_ok ?_);rw[rall_tree];have nilRes:∀(e:Int) (st:St),allI s=[]→allE s=e→Fits 0 [(iN s).1] (iN s).2 [some (.tuple [.nilSlice,.int .i64 e])] st:=by
  intro e st h1 h2;have e1:iN s=(.tuple [.nilSlice,.int .i64 e],[]):=by unfold iN;rw[h1,h2]
  rw[e1];exact⟨[],[.tuple [.nilSlice,.int .i64 e]],rfl,rfl,FitsM.of trivial,by simp,fun i hi=>by omega⟩
 refine⟨oC s 0 _,aa (by unfold mI;rw[hk];rfl) ⟨?_,?_,?_⟩⟩
 ·intro h;have h:alF s.length s []=([],0):=h;exact nilRes 0 _ (by unfold allI;rw[h]) (by unfold allE;rw[h])
 ·rintro o n ⟨h0,t,rfl,rfl,h⟩;have h:alF s.length s []=(h0::t,0):=h;have h1:allI s=h0::t:=by unfold allI;rw[h]
  have h2:allE s=0:=by unfold allE;rw[h]
  have e1:iN s=(.tuple [.slice 0 0 (h0::t).length false 0 0,.int .i64 0],[.row (aq (h0::t)) 135 2]):=by unfold iN;rw[h1,h2]
  show Fits 0 [(iN s).1] (iN s).2 _ _;rw[e1];exact⟨[0],[.tuple [.slice 0 0 (h0::t).length false 0 0,.int .i64 0]],rfl,rfl,FitsM.of ⟨.inr ⟨.row (aq (h0::t)) 135 2,.inl (by simp only[renB,ez]),rfl⟩,trivial⟩,by simp,fun i hi=>by omega⟩
 ·rintro e ⟨_,h⟩;have h:alF s.length s []=([],e):=h;have:=fun st=>nilRes e st (by unfold allI;rw[h]) (by unfold allE;rw[h]);exact⟨fun _=>this _,fun _ _=>this _⟩
def rallG(AE:List UInt8→Int)(AN:List UInt8→Nat)(AC:List UInt8→List V):List V→Option (List (Bool×(V×St)))
 |[.str s]=>some [(au s&&Nat.beq (AN s) 0,(.tuple [.nilSlice,.int .i64 (AE s)],[])),(au s,(.tuple [.slice 0 0 (AN s) false 0 0,.int .i64 (AE s)],[.row (AC s) 135 2]))]
 |_=>none
theorem rallG_ok(args:List V)(l:List (Bool×(V×St)))(o:V×St)(h:rallG allE allN allC args=some l)(ho:az l=some o):FnSat Tryz.prog 105 args [] (Is o):=by
 unfold rallG at h;split at h
 ·rename_i s;cases h;cases hk:au s with
  |false=>rw[hk]at ho;simp[az]at ho
  |true=>
  rw[hk,Bool.true_and]at ho;have:o=iN s:=by
   unfold iN;unfold allN allC at ho;cases hI:allI s with
   |nil=>
    rw[hI]at ho;have e:Nat.beq ([]:List IT).length 0=true:=rfl;simp only[az,e,cond_true,Option.some.injEq]at ho;exact ho.symm
   |cons a t=>
    rw[hI]at ho;have e:Nat.beq (a::t).length 0=false:=rfl;simp only[az,e,cond_true,cond_false,Option.some.injEq]at ho;exact ho.symm
  rw[this];exact rall_sat s hk
 ·cases h
noncomputable def RB0:Tab:=⟨noT,noL,aL 9⟩
theorem s9:TabOk3 Tryz.prog RB0:=⟨aA,aB,ak 9⟩
theorem dg_tree(b:Int)(R:V→Prop):runW Tryz.prog RB0 9 10 173 [.int .u8 b] R=
  (
 bif decide (b≥48)then R (.bool (decide (b≤57)))else R (.bool false)):=by kernel_rfl
theorem lt_tree(b:Int)(R:V→Prop):runW Tryz.prog RB0 9 10 174 [.int .u8 b] R=
  (
 bif decide (b≥97)then R (.bool (decide (b≤122)))else R (.bool false)):=by kernel_rfl
def dgI(b:Int):Bool:=decide (48≤b)&&decide (b≤57)
def ltI(b:Int):Bool:=decide (97≤b)&&decide (b≤122)
def dgP:List V→Option V
 |[.int .u8 b]=>some (.bool (dgI b))
 |_=>none
def ltP:List V→Option V
 |[.int .u8 b]=>some (.bool (ltI b))
 |_=>none
theorem dg_ok(args:List V)(v:V)(h:dgP args=some v):FnSat Tryz.prog 173 args [] (Is (v,[])):=by
 unfold dgP at h;split at h
 ·rename_i b;cases h;refine ax (lim:=9) (n:=10) mixed s9 rfl rfl ?_;rw[dg_tree];unfold dgI;refine ab (fun h=>?_) (fun h=>?_)
  ·have h:=of_decide_eq_true h;rw[decide_eq_true (show 48≤b by omega),Bool.true_and]
  ·have h:=of_decide_eq_false h;rw[decide_eq_false (show ¬48≤b by omega),Bool.false_and]
 ·cases h
theorem lt_ok(args:List V)(v:V)(h:ltP args=some v):FnSat Tryz.prog 174 args [] (Is (v,[])):=by
 unfold ltP at h;split at h
 ·rename_i b;cases h;refine ax (lim:=9) (n:=10) mixed s9 rfl rfl ?_;rw[lt_tree];unfold ltI;refine ab (fun h=>?_) (fun h=>?_)
  ·have h:=of_decide_eq_true h;rw[decide_eq_true (show 97≤b by omega),Bool.true_and]
  ·have h:=of_decide_eq_false h;rw[decide_eq_false (show ¬97≤b by omega),Bool.false_and]
 ·cases h
noncomputable def RB1:Tab:=⟨addP (addP noT 173 dgP) 174 ltP,noL,aL 9⟩
theorem RB1_ok:TabOk3 Tryz.prog RB1:=⟨aN (aN aA dg_ok) lt_ok,aB,ak 9⟩
theorem rl_round(s:List UInt8)(i:Int)(R:Exit→List (Option V)→St→Prop):ah Tryz.prog RB1 9 10 (ad 9) 149 58 [0,2,3] [.str s,.bool false,.int .i64 i] [] R=
  (
 bif decide (i<(↑s.length:Int))then bif decide (0≤i)&&i.toNat.blt s.length then bif !dgI (↑(s.getD i.toNat 0).toNat:Int)then bif decide (0≤i)&&i.toNat.blt
 s.length then bif !ltI (↑(s.getD i.toNat 0).toNat:Int)then bif decide (0≤i)&&i.toNat.blt s.length then bif (↑(s.getD i.toNat 0).toNat:Int)!=45 then R .ret
 [some (.str s),some (.bool false),some (.int i64 i)] []else R .normal [some (.str s),some (.bool false),some (.int i64 (i64.wrap (i
 +1)))] []else False else R .normal [some (.str s),some (.bool false),some (.int i64 (i64.wrap (i+1)))] []else False else R .normal [some
 (.str s),some (.bool false),some (.int i64 (i64.wrap (i+1)))] []else False else R (.exit 0) [some (.str s),some (.bool false),some (.int
 i64 i)] []):=by kernel_rfl
theorem rdg_round(s:List UInt8)(i:Int)(R:Exit→List (Option V)→St→Prop):ah Tryz.prog RB1 9 10 (ad 9) 148 26 [0,2,3] [.str s,.bool false,.int .i64 i] [] R=
  (
 bif decide (i<(↑s.length:Int))then bif decide (0≤i)&&i.toNat.blt s.length then bif !dgI (↑(s.getD i.toNat 0).toNat:Int)then R .ret [some (.str s),some
 (.bool false),some (.int i64 i)] []else R .normal [some (.str s),some (.bool false),some (.int i64 (i64.wrap (i+1)))] []else False
 else R (.exit 0) [some (.str s),some (.bool false),some (.int i64 i)] []):=by kernel_rfl
noncomputable def zK_0(i:Int):=V.int i64 (i64.wrap (i+1))
theorem rc_round0(s:List UInt8)(j i:Int)(R:Exit→List (Option V)→St→Prop):ah Tryz.prog RB0 9 10 (ad 9) 112 122 [0,2,3,4,5] [.str s,.nilSlice,.nilSlice,.int .i64 j,.int .i64 i] [] R=
 (
 bif decide (i≤(↑s.length:Int))then bif i==(↑s.length:Int)then bif decide (0≤j)then bif decide (0≤i)then bif j.toNat.ble i.toNat&&i.toNat.ble
 s.length then R .normal [some (.str s),some .nilSlice,some (.slice 1 0 1 false 0 0),some (zK_0 i),some (zK_0 i)] [.row [.str (List.take (i.toNat-
 j.toNat) (List.drop j.toNat s))] 9 1,.row [.str (List.take (i.toNat-j.toNat) (List.drop j.toNat s))] 9 1]else False else False else False else bif decide
 (0≤i)&&i.toNat.blt s.length then bif (↑(s.getD i.toNat 0).toNat:Int)==46 then bif decide (0≤j)then bif decide (0≤i)then bif j.toNat.ble i.toNat&&
 i.toNat.ble s.length then R .normal [some (.str s),some .nilSlice,some (.slice 1 0 1 false 0 0),some (zK_0 i),some (zK_0 i)] [.row [.str
 (List.take (i.toNat-j.toNat) (List.drop j.toNat s))] 9 1,.row [.str (List.take (i.toNat-j.toNat) (List.drop j.toNat s))] 9 1]else False else False else
 False else R .normal [some (.str s),some .nilSlice,some .nilSlice,some (.int i64 j),some (zK_0 i)] []else False else R (.exit 0) [some
 (.str s),some .nilSlice,some .nilSlice,some (.int i64 j),some (.int i64 i)] []):=by kernel_rfl
noncomputable def zK_1(i:Int):=V.int i64 (i64.wrap (i+1))
theorem rc_round1(s:List UInt8)(o:List V)(n:Nat)(j i:Int)(R:Exit→List (Option V)→St→Prop):ah Tryz.prog RB0 9 10 (ad 9) 112 122 [0,2,3,4,5] [.str s,.nilSlice,.slice 0 0 n false 0 0,.int .i64 j,.int .i64 i] [.row o 9 1] R=
 (
 bif decide (i≤(↑s.length:Int))then bif i==(↑s.length:Int)then bif decide (0≤j)then bif decide (0≤i)then bif j.toNat.ble i.toNat&&i.toNat.ble
 s.length then bif o.length.beq (n*1)then bif (n+1).ble 9223372036854775807&&((n+1)*16).ble 140737488355328 then R .normal [some (.str s),some
 .nilSlice,some (.slice 2 0 (n+1) false 0 0),some (zK_1 i),some (zK_1 i)] [.dead,.row [.str (List.take (i.toNat-j.toNat) (List.drop j.toNat s))]
 9 1,.row (o++[V.str (List.take (i.toNat-j.toNat) (List.drop j.toNat s))]) 9 1]else False else False else False else False else False else bif decide (0
 ≤i)&&i.toNat.blt s.length then bif (↑(s.getD i.toNat 0).toNat:Int)==46 then bif decide (0≤j)then bif decide (0≤i)then bif j.toNat.ble i.toNat&&
 i.toNat.ble s.length then bif o.length.beq (n*1)then bif (n+1).ble 9223372036854775807&&((n+1)*16).ble 140737488355328 then R .normal [some (.str
 s),some .nilSlice,some (.slice 2 0 (n+1) false 0 0),some (zK_1 i),some (zK_1 i)] [.dead,.row [.str (List.take (i.toNat-j.toNat) (List.drop
 j.toNat s))] 9 1,.row (o++[V.str (List.take (i.toNat-j.toNat) (List.drop j.toNat s))]) 9 1]else False else False else False else False else False else R
 .normal [some (.str s),some .nilSlice,some (.slice 0 0 n false 0 0),some (.int i64 j),some (zK_1 i)] [.row o 9 1]else False else R
 (.exit 0) [some (.str s),some .nilSlice,some (.slice 0 0 n false 0 0),some (.int i64 j),some (.int i64 i)] [.row o 9 1]):=by kernel_rfl
theorem kind_lt(c:UInt8):Nat.blt (dv c) 2=(dgI c.toNat||(ltI c.toNat||((c.toNat:Int)==45))):=by
 unfold dv dgI ltI;rw[Bool.eq_iff_iff];simp only[Nat.blt_eq,Bool.or_eq_true,Bool.and_eq_true,decide_eq_true_eq,beq_iff_eq];split
 ·constructor<;>intro _<;>omega
 ·split
  ·constructor<;>intro _<;>omega
  ·constructor<;>intro _<;>omega
theorem kind_dg(c:UInt8):Nat.beq (dv c) 0=dgI c.toNat:=by
 unfold dv dgI;rw[Bool.eq_iff_iff];simp only[Nat.beq_eq,Bool.and_eq_true,decide_eq_true_eq];split
 ·constructor<;>intro _<;>omega
 ·split
  ·constructor<;>intro _<;>omega
  ·constructor<;>intro _<;>omega
structure RL where
 s:List UInt8
 i:Nat
def rlV(x:RL):List V:=[.str x.s,.bool false,.int .i64 x.i]
def rlJ(_:RL):St:=[]
def fM(x:RL):Bool:=Nat.ble x.i x.s.length&&au x.s
def rlMu(x:RL):Nat:=x.s.length-x.i
def rlDec:List (Option V)→St→Option RL
 |[some (.str s),some (.bool false),some (.int .i64 0)],_=>some ⟨s,0⟩
 |_,_=>none
def iP(g:Bool)(s:List UInt8)(K:Exit→List V→St→Prop):Prop:=
 bif g then K (.exit 0) [.str s,.bool false,.int .i64 s.length] []else ∀j:Int,K .ret [.str s,.bool false,.int .i64 j] []
def rlOut:Asks RL:=fun x K=>iP (da (x.s.drop x.i)) x.s K
def rdgOut:Asks RL:=fun x K=>iP (bU (x.s.drop x.i)) x.s K
theorem rl_roundOk(x:RL)(hx:fM x=true):ah Tryz.prog RB1 9 10 (ad 9) 149 58 [0,2,3] (rlV x) (rlJ x) (ay 0 fM rlV rlJ rlMu rlOut x):=by
 obtain⟨s,i⟩:=x;unfold fM at hx;rw[Bool.and_eq_true]at hx;have p1:i≤s.length:=Nat.le_of_ble_eq_true hx.1;have p2:s.length≤1099511627776:=of_decide_eq_true hx.2;show ah Tryz.prog RB1 9 10 (ad 9) 149 58 [0,2,3] [.str s,.bool false,.int .i64 i] [] _;rw[rl_round];cases hd:s.drop i with
 |nil=>
  have hi:=gx hd p1;rw[decide_eq_false (show ¬((i:Int)<(s.length:Int)) by omega),cond_false];refine⟨[.str s,.bool false,.int .i64 i],[],fun K hK=>?_,bn _ rfl _ rfl _⟩;have hK:iP (da (s.drop i)) s K:=hK;rw[hd]at hK;rw[hi];exact hK
 |cons c r=>
  obtain⟨e1,e2,e3⟩:=eI hd;have w1:i64.wrap ((i:Int)+1)=((i+1:Nat):Int):=by rw[IntWalk.i64_in _ ⟨by omega,by omega⟩];omega
  have d1:(decide (0≤(i:Int))&&i.blt s.length)=true:=by rw[decide_eq_true (show(0:Int)≤i by omega),Bool.true_and];exact Nat.ble_eq_true_of_le (by omega)
  rw[decide_eq_true (show((i:Int)<(s.length:Int)) by omega),cond_true];simp only[Int.toNat_natCast,d1,e1,w1,cond_true];have next:Nat.blt (dv c) 2=true→ay 0 fM rlV rlJ rlMu rlOut ⟨s,i⟩ .normal [some (.str s),some (.bool false),some (.int .i64 ((i+1:Nat):Int))] []:=fun hk=>by
   refine⟨⟨s,i+1⟩,?_,bn _ rfl _ rfl _,by simp only[rlMu];omega,fun K hK=>?_⟩
   ·unfold fM;rw[hx.2,Bool.and_true];exact Nat.ble_eq_true_of_le e3
   ·have hK:iP (da (s.drop i)) s K:=hK;have g:da (c::r)=da r:=by show(Nat.blt (dv c) 2&&da r)=da r;rw[hk];rfl
    rw[hd,g,←e2]at hK;exact hK
  have bad:Nat.blt (dv c) 2=false→ay 0 fM rlV rlJ rlMu rlOut ⟨s,i⟩ .ret [some (.str s),some (.bool false),some (.int .i64 (i:Int))] []:=fun hk=>by
   refine⟨[.str s,.bool false,.int .i64 i],[],fun K hK=>?_,bn _ rfl _ rfl _⟩;have hK:iP (da (s.drop i)) s K:=hK;have g:da (c::r)=false:=by show(Nat.blt (dv c) 2&&da r)=false;rw[hk];rfl
   rw[hd,g]at hK;exact hK i
  rw[kind_lt]at next bad
  refine ab (fun h1=>?_) (fun h1=>?_)
  ·refine ab (fun h2=>ab (fun h3=>?_) (fun h3=>?_)) (fun h2=>?_)
   ·have h1:dgI c.toNat=false:=by simpa using h1
    have h2:ltI c.toNat=false:=by simpa using h2
    exact bad (by rw[h1,h2];simpa[bne]using h3)
   ·exact next (by have:((c.toNat:Int)==45)=true:=by simpa[bne]using h3
                   rw[this];simp)
   ·have h2:ltI c.toNat=true:=by simpa using h2
    exact next (by rw[h2];simp)
  ·have h1:dgI c.toNat=true:=by simpa using h1
   exact next (by rw[h1];rfl)
theorem rdg_roundOk(x:RL)(hx:fM x=true):ah Tryz.prog RB1 9 10 (ad 9) 148 26 [0,2,3] (rlV x) (rlJ x) (ay 0 fM rlV rlJ rlMu rdgOut x):=by
 obtain⟨s,i⟩:=x;unfold fM at hx;rw[Bool.and_eq_true]at hx;have p1:i≤s.length:=Nat.le_of_ble_eq_true hx.1;have p2:s.length≤1099511627776:=of_decide_eq_true hx.2;show ah Tryz.prog RB1 9 10 (ad 9) 148 26 [0,2,3] [.str s,.bool false,.int .i64 i] [] _;rw[rdg_round];cases hd:s.drop i with
 |nil=>
  have hi:=gx hd p1;rw[decide_eq_false (show ¬((i:Int)<(s.length:Int)) by omega),cond_false];refine⟨[.str s,.bool false,.int .i64 i],[],fun K hK=>?_,bn _ rfl _ rfl _⟩;have hK:iP (bU (s.drop i)) s K:=hK;rw[hd]at hK;rw[hi];exact hK
 |cons c r=>
  obtain⟨e1,e2,e3⟩:=eI hd;have w1:i64.wrap ((i:Int)+1)=((i+1:Nat):Int):=by rw[IntWalk.i64_in _ ⟨by omega,by omega⟩];omega
  have d1:(decide (0≤(i:Int))&&i.blt s.length)=true:=by rw[decide_eq_true (show(0:Int)≤i by omega),Bool.true_and];exact Nat.ble_eq_true_of_le (by omega)
  rw[decide_eq_true (show((i:Int)<(s.length:Int)) by omega),cond_true];simp only[Int.toNat_natCast,d1,e1,w1,cond_true];refine ab (fun h1=>?_) (fun h1=>?_)
  ·have h1:dgI c.toNat=false:=by simpa using h1
   refine⟨[.str s,.bool false,.int .i64 i],[],fun K hK=>?_,bn _ rfl _ rfl _⟩;have hK:iP (bU (s.drop i)) s K:=hK;have g:bU (c::r)=false:=by show(Nat.beq (dv c) 0&&bU r)=false;rw[kind_dg,h1];rfl
   rw[hd,g]at hK;exact hK i
  ·have h1:dgI c.toNat=true:=by simpa using h1
   refine⟨⟨s,i+1⟩,?_,bn _ rfl _ rfl _,by simp only[rlMu];omega,fun K hK=>?_⟩
   ·unfold fM;rw[hx.2,Bool.and_true];exact Nat.ble_eq_true_of_le e3
   ·have hK:iP (bU (s.drop i)) s K:=hK;have g:bU (c::r)=bU r:=by show(Nat.beq (dv c) 0&&bU r)=bU r;rw[kind_dg,h1];rfl
    rw[hd,g,←e2]at hK;exact hK
noncomputable def lkRL:Nat→Trans→Trans:=aR 58 (br 0 (szOf Tryz.prog 149) [0,2,3] rlDec fM rlV rlJ rlOut) (ad 9)
theorem lkRL_ok:aD Tryz.prog 0 lkRL 149:=by
 unfold lkRL;exact bo (aP 9 0 149) (by kernel_rfl) fun f st Q h=>aU (P:=Tryz.prog) (T:=RB1) (k:=0) (lim:=9) (n:=10) (g:=149) (p0:=58) (lk:=ad 9) mixed RB1_ok (aS 9 _ _) rlMu rl_roundOk h
noncomputable def lkRD:Nat→Trans→Trans:=aR 26 (br 0 (szOf Tryz.prog 148) [0,2,3] rlDec fM rlV rlJ rdgOut) (ad 9)
theorem lkRD_ok:aD Tryz.prog 0 lkRD 148:=by
 unfold lkRD;exact bo (aP 9 0 148) (by kernel_rfl) fun f st Q h=>aU (P:=Tryz.prog) (T:=RB1) (k:=0) (lim:=9) (n:=10) (g:=148) (p0:=26) (lk:=ad 9) mixed RB1_ok (aS 9 _ _) rlMu rdg_roundOk h
noncomputable def RB2:Tab:=⟨noT,noL,cn (cn (aL 9) 149 0 lkRL) 148 0 lkRD⟩
theorem RB2_ok:TabOk3 Tryz.prog RB2:=⟨aA,aB,bc (bc (ak 9) lkRL_ok) lkRD_ok⟩
theorem rlab_tree(s:List UInt8)(R:V→Prop):runW Tryz.prog RB2 9 10 149 [.str s] R=
  (
 bif (↑s.length:Int)==0 then R (.bool false)else bif decide ((↑s.length:Int)>63)then R (.bool false)else bif true&&Nat.blt 0 s.length then bif (↑(s.getD 0
 0).toNat:Int)==45 then R (.bool false)else bif decide (0≤i64.wrap ((↑s.length:Int)-1))&&(i64.wrap ((↑s.length:Int)-1)).toNat.blt
 s.length then bif (↑(s.getD (i64.wrap ((↑s.length:Int)-1)).toNat 0).toNat:Int)==45 then R (.bool false)else Fits 0 [.str s,.bool false,.int
 i64 0] [] [some (.str s),some (.bool false),some (.int i64 0)] []∧bif fM {s:=s,i:=0}then bif da (List.drop 0 s)then R (.bool true)
 else ∀(j:Int),R (.bool false)else False else False else False):=by kernel_rfl
theorem rdig_tree(s:List UInt8)(R:V→Prop):runW Tryz.prog RB2 9 10 148 [.str s] R=
  (
 Fits 0 [.str s,.bool false,.int i64 0] [] [some (.str s),some (.bool false),some (.int i64 0)] []∧bif fM {s:=s,i:=0}then bif bU
 (List.drop 0 s)then R (.bool true)else ∀(j:Int),R (.bool false)else False):=by kernel_rfl
theorem rlab_ok(args:List V)(v:V)(h:(match args with|[.str s]=>some (V.bool (bT s))|_=>none)=some v):FnSat Tryz.prog 149 args [] (Is (v,[])):=by
 split at h
 ·rename_i s;cases h;refine ax (lim:=9) (n:=10) mixed RB2_ok rfl rfl ?_;rw[rlab_tree];have bad:∀{b:Bool},bT s=b→V.bool b=V.bool (bT s):=fun h=>by rw[h]
  refine ab (fun h=>bad ?_) (fun h=>ab (fun h1=>bad ?_) (fun h1=>?_))
  ·have h:s.length=0:=by have:=beq_iff_eq.1 h;omega
   unfold bT;rw[decide_eq_false (by omega)];rfl
  ·have h1:=of_decide_eq_true h1;unfold bT;rw[decide_eq_false (show ¬s.length≤63 by omega),Bool.false_and,Bool.and_false]
  have h:1≤s.length:=by have:=beq_eq_false_iff_ne.1 h;omega
  have h1:=of_decide_eq_false h1;have h1:s.length≤63:=by omega
  have w:i64.wrap ((s.length:Int)-1)=((s.length-1:Nat):Int):=by rw[IntWalk.i64_in _ ⟨by omega,by omega⟩];omega
  rw[w,Int.toNat_natCast];have nt:∀{c:UInt8} {b:Bool},((c.toNat:Int)==45)=b→(c.toNat==45)=b:=fun{c b} h=>by
   rw[←h,Bool.eq_iff_iff,beq_iff_eq,beq_iff_eq];omega
  refine aa (by rw[Bool.true_and];exact Nat.ble_eq_true_of_le h) (ab (fun h2=>bad ?_) (fun h2=>aa ?_ (ab (fun h3=>bad ?_) (fun h3=>⟨bn _ rfl _ rfl _,aa ?_ ?_⟩))))
  ·unfold bT;rw[nt h2,Bool.not_true,Bool.false_and,Bool.and_false,Bool.and_false]
  ·rw[decide_eq_true (by omega),Bool.true_and];exact Nat.ble_eq_true_of_le (by omega)
  ·unfold bT;rw[nt h3,Bool.not_true,Bool.false_and,Bool.and_false,Bool.and_false,Bool.and_false]
  ·unfold fM au;rw[Bool.and_eq_true];exact⟨rfl,decide_eq_true (show s.length≤1099511627776 by omega)⟩
  ·have e:bT s=da s:=by
    unfold bT;rw[decide_eq_true h,decide_eq_true h1,nt h2,nt h3];rfl
   rw[List.drop_zero];cases hg:da s with
   |true=>exact bad (e.trans hg)
   |false=>exact fun _=>bad (e.trans hg)
 ·cases h
def rlabP:List V→Option V:=fun args=>match args with|[.str s]=>some (V.bool (bT s))|_=>none
def rdigT:List V→Option (List (Bool×(V×St)))
 |[.str s]=>some [(au s,(.bool (bU s),[]))]
 |_=>none
theorem rdig_ok(args:List V)(l:List (Bool×(V×St)))(o:V×St)(h:rdigT args=some l)(ho:az l=some o):FnSat Tryz.prog 148 args [] (Is o):=by
 unfold rdigT at h;split at h
 ·rename_i s;cases h;obtain⟨hk,rfl⟩:=aJ ho;refine ax (lim:=9) (n:=10) mixed RB2_ok rfl rfl ?_;rw[rdig_tree];refine⟨bn _ rfl _ rfl _,aa ?_ ?_⟩
  ·unfold fM;rw[hk];rfl
  ·rw[List.drop_zero];cases bU s with
   |true=>rfl
   |false=>exact fun _=>rfl
 ·cases h
def labG(a:List UInt8):List UInt8→List (List UInt8)
 |[]=>[a]
 |c::r=>if c=46 then a::labG [] r else labG (a++[c]) r
theorem labG_cut:∀(s a:List UInt8),labG a s=match(cutA s).2 with
  |none=>[a++(cutA s).1]
  |some r=>(a++(cutA s).1)::labG [] r
 |[],a=>by simp[labG,cutA]
 |c::r,a=>by
  by_cases hc:c=46
  ·simp[labG,cutA,hc]
  ·have:=labG_cut r (a++[c]);simp only[labG,cutA,if_neg hc];rw[this];cases(cutA r).2<;>simp
theorem labF_G:∀(k:Nat) (s:List UInt8),s.length<k→labF k s=labG [] s
 |0,s,h=>by omega
 |k+1,s,h=>by
  rw[labG_cut];unfold labF cutM cutB cutR;cases hc:(cutA s).2 with
  |none=>simp
  |some r=>
   have hl:r.length<s.length:=by
    have:∀(s r:List UInt8),(cutA s).2=some r→r.length<s.length:=by
     intro s
     induction s with
     |nil=>intro r h;simp[cutA]at h
     |cons c t ih=>
      intro r h;by_cases hc:c=46
      ·simp only[cutA,if_pos hc,Option.some.injEq]at h;subst h;simp
      ·simp only[cutA,if_neg hc]at h;have:=ih r h;simp only[List.length_cons];omega
    exact this s r hc
   simp only[Option.isSome_some,cond_true,Option.getD_some,List.nil_append];rw[labF_G k r (by omega)]
theorem nA(s:List UInt8):cD s=labG [] s:=labF_G _ s (by omega)
theorem oY:∀(s a:List UInt8),(labG a s).length≤s.length+1
 |[],a=>by simp[labG]
 |c::r,a=>by
  simp only[labG];split
  ·have:=oY r [];simp only[List.length_cons];omega
  ·have:=oY r (a++[c]);simp only[List.length_cons];omega
structure RC where
 s:List UInt8
 o:List (List UInt8)
 j:Nat
 i:Nat
def rcSl:List (List UInt8)→V
 |[]=>.nilSlice
 |a::r=>.slice 0 0 (a::r).length false 0 0
def rcRw:List (List UInt8)→St
 |[]=>[]
 |a::r=>[.row (strs (a::r)) 9 1]
def rcV(x:RC):List V:=[.str x.s,.nilSlice,rcSl x.o,.int .i64 x.j,.int .i64 x.i]
def rcJ(x:RC):St:=rcRw x.o
def jL(x:RC):Bool:=au x.s&&(Nat.ble x.j x.i&&(Nat.ble x.i (x.s.length+1)&&(Nat.ble x.o.length x.i&&(Nat.ble x.i x.s.length||!x.o.isEmpty))))
def rcMu(x:RC):Nat:=x.s.length+2-x.i
def rcDec:List (Option V)→St→Option RC
 |[some (.str s),some .nilSlice,some .nilSlice,some (.int .i64 0),some (.int .i64 0)],_=>some ⟨s,[],0,0⟩
 |_,_=>none
def rcL(x:RC):List (List UInt8):=bif Nat.ble x.i x.s.length then x.o++labG ((x.s.drop x.j).take (x.i-x.j)) (x.s.drop x.i)else x.o
def rU(n:Nat)(cs:List V)(s:List UInt8)(K:Exit→List V→St→Prop):Prop:=∀j i:Int,K (.exit 0) [.str s,.nilSlice,.slice 0 0 n false 0 0,.int .i64 j,.int .i64 i] [.row cs 9 1]
def rcN(s:List UInt8)(o:List (List UInt8))(j i:Nat):Nat:=(rcL ⟨s,o,j,i⟩).length
def rcC(s:List UInt8)(o:List (List UInt8))(j i:Nat):List V:=strs (rcL ⟨s,o,j,i⟩)
def rcOut:Asks RC:=fun x K=>rU (rcN x.s x.o x.j x.i) (rcC x.s x.o x.j x.i) x.s K
theorem gc(σ:List Nat):∀l:List (List UInt8),renL σ (strs l)=some (strs l)
 |[]=>rfl
 |a::r=>by
  have:=gc σ r;unfold strs at this ⊢;simp only[List.map_cons,renL,renV,this]
theorem oA(s:List UInt8)(j i:Int)(o:List (List UInt8))(b L:Nat)(hL:L=o.length){st:St}(hb:st[b]?=some (.row (strs o) 9 1)):
  Fits 0 [.str s,.nilSlice,.slice 0 0 o.length false 0 0,.int .i64 j,.int .i64 i] [.row (strs o) 9 1] [some (.str s),some .nilSlice,some (.slice b 0 L false 0 0),some (.int .i64 j),some (.int .i64 i)] st:=by
 subst hL;exact⟨[b],[.str s,.nilSlice,.slice b 0 o.length false 0 0,.int .i64 j,.int .i64 i],rfl,rfl,FitsM.of ⟨.inr ⟨_,.inl (by simp only[renB,gc]),hb⟩,trivial⟩,by simp,fun i hi=>by omega⟩
theorem take_more{s:List UInt8}{j i:Nat}{c:UInt8}{r:List UInt8}(hd:s.drop i=c::r)(hj:j≤i):(s.drop j).take (i+1-j)=(s.drop j).take (i-j)++[c]:=by
 have hl:i<s.length:=by
  rcases Nat.lt_or_ge i s.length with h|h
  ·exact h
  ·rw[List.drop_eq_nil_of_le h]at hd;cases hd
 have hc:(s.drop j)[i-j]?=some c:=by
  rw[List.getElem?_drop,show j+(i-j)=i by omega];have:=List.getElem?_drop (xs:=s) (i:=i) (j:=0);rw[hd,Nat.add_zero]at this;exact this.symm
 rw[show i+1-j=(i-j)+1 by omega,List.take_add_one,hc];rfl
theorem lW{s:List UInt8}{o:List (List UInt8)}{j i:Nat}(h:i≤s.length):rcL ⟨s,o,j,i⟩=o++labG ((s.drop j).take (i-j)) (s.drop i):=by
 unfold rcL;rw[Nat.ble_eq_true_of_le h];rfl
theorem rcL_out{s:List UInt8}{o:List (List UInt8)}{j i:Nat}(h:s.length<i):rcL ⟨s,o,j,i⟩=o:=by
 unfold rcL;cases hb:Nat.ble i s.length with
 |false=>rfl
 |true=>have:=Nat.le_of_ble_eq_true hb;omega
theorem rc_roundOk(x:RC)(hx:jL x=true):ah Tryz.prog RB0 9 10 (ad 9) 112 122 [0,2,3,4,5] (rcV x) (rcJ x) (ay 0 jL rcV rcJ rcMu rcOut x):=by
 obtain⟨s,o,j,i⟩:=x;unfold jL at hx;simp only[Bool.and_eq_true]at hx;have p0:s.length≤1099511627776:=of_decide_eq_true hx.1;have p1:j≤i:=Nat.le_of_ble_eq_true hx.2.1;have p2:i≤s.length+1:=Nat.le_of_ble_eq_true hx.2.2.1;have p3:o.length≤i:=Nat.le_of_ble_eq_true hx.2.2.2.1;have p4:s.length<i→o≠[]:=fun h=>by
  have h4:=hx.2.2.2.2;rw[Bool.or_eq_true]at h4;rcases h4 with h4|h4
  ·have:=Nat.le_of_ble_eq_true h4;omega
  ·intro e;subst e;cases h4
 have w1:i64.wrap ((i:Int)+1)=((i+1:Nat):Int):=by rw[IntWalk.i64_in _ ⟨by omega,by omega⟩];omega
 have d1:decide ((0:Int)≤(j:Int))=true:=decide_eq_true (by omega);have d2:decide ((0:Int)≤(i:Int))=true:=decide_eq_true (by omega);have d5:(strs o).length.beq (o.length*1)=true:=by rw[aF,Nat.mul_one,Nat.beq_refl]
 have d6:((o.length+1).ble 9223372036854775807&&((o.length+1)*16).ble 140737488355328)=true:=by rw[Nat.ble_eq_true_of_le (by omega),Nat.ble_eq_true_of_le (by omega)];rfl
 have pre:∀(o':List (List UInt8)) (j':Nat),j'≤i+1→i≤s.length→o'.length≤i+1→(i=s.length→o'≠[])→jL ⟨s,o',j',i+1⟩=true:=fun o' j' h1 h2 h3 h4=>by
  unfold jL;simp only[Bool.and_eq_true,Bool.or_eq_true];refine⟨hx.1,Nat.ble_eq_true_of_le h1,Nat.ble_eq_true_of_le (by omega),Nat.ble_eq_true_of_le h3,?_⟩;rcases Nat.lt_or_ge i s.length with h|h
  ·exact .inl (Nat.ble_eq_true_of_le h)
  ·refine .inr ?_;have:=h4 (by omega);cases o' with
   |nil=>exact absurd rfl this
   |cons a q=>rfl
 -- a part ends
 have cut:∀(b L:Nat) (st:St),L=o.length+1→st[b]?=some (.row (strs (o++[(s.drop j).take (i-j)])) 9 1)→i≤s.length→(∀c r,s.drop i=c::r→c=46)→
   ay 0 jL rcV rcJ rcMu rcOut ⟨s,o,j,i⟩ .normal [some (.str s),some .nilSlice,some (.slice b 0 L false 0 0),some (.int .i64 ((i+1:Nat):Int)),some (.int .i64 ((i+1:Nat):Int))] st:=by
  intro b L st hL hb hi hc;have hr:rcL ⟨s,o++[(s.drop j).take (i-j)],i+1,i+1⟩=rcL ⟨s,o,j,i⟩:=by
   cases hd:s.drop i with
   |nil=>
    have hi2:=gx hd hi;rw[rcL_out (by omega),lW hi,hd,labG]
   |cons c r=>
    obtain⟨_,h2,h3⟩:=eI hd;rw[lW h3,lW hi,hd,labG,if_pos (hc c r hd),h2,Nat.sub_self,List.take_zero,List.append_assoc];rfl
  refine⟨⟨s,o++[(s.drop j).take (i-j)],i+1,i+1⟩,pre _ _ (Nat.le_refl _) hi (by simp;omega) (fun _=>by simp),?_,by simp only[rcMu];omega,fun K hK=>?_⟩
  ·cases ho:o++[(s.drop j).take (i-j)]with
   |nil=>simp at ho
   |cons a q=>
    rw[ho]at hb;have hL:L=(a::q).length:=by rw[←ho];simp;omega
    exact oA s _ _ (a::q) b L hL hb
  ·have hK:rU (rcN s o j i) (rcC s o j i) s K:=hK;unfold rcN rcC at hK;rw[←hr]at hK;exact hK
 have go:∀c r,s.drop i=c::r→c≠46→ay 0 jL rcV rcJ rcMu rcOut ⟨s,o,j,i⟩ .normal [some (.str s),some .nilSlice,some (rcSl o),some (.int .i64 (j:Int)),some (.int .i64 ((i+1:Nat):Int))] (rcRw o):=fun c r h hc=>by
  obtain⟨_,h2,h3⟩:=eI h;refine⟨⟨s,o,j,i+1⟩,pre _ _ (by omega) (by omega) (by omega) (fun e=>by omega),?_,by simp only[rcMu];omega,fun K hK=>?_⟩
  ·cases o with
   |nil=>exact⟨[],[.str s,.nilSlice,.nilSlice,.int .i64 j,.int .i64 ((i+1:Nat):Int)],rfl,rfl,FitsM.of trivial,by simp,fun i hi=>by omega⟩
   |cons a q=>exact oA s _ _ (a::q) 0 _ rfl rfl
  ·have hK:rU (rcN s o j i) (rcC s o j i) s K:=hK;have e:rcL ⟨s,o,j,i⟩=rcL ⟨s,o,j,i+1⟩:=by
    rw[lW (by omega),lW h3,h,labG,if_neg hc,take_more h p1,h2]
   unfold rcN rcC at hK;rw[e]at hK;exact hK
 have dot:∀{c:UInt8} {b:Bool},((c.toNat:Int)==46)=b→(decide (c=46))=b:=fun{c b} h=>by
  rw[←h,Bool.eq_iff_iff,beq_iff_eq,decide_eq_true_eq];exact⟨fun h=>by subst h;rfl,fun h=>UInt8.toNat_inj.1 (by have:(46:UInt8).toNat=46:=rfl;omega)⟩
 cases o with
 |nil=>
  show ah Tryz.prog RB0 9 10 (ad 9) 112 122 [0,2,3,4,5] [.str s,.nilSlice,.nilSlice,.int .i64 j,.int .i64 i] [] _;rw[rc_round0];unfold zK_0;have hi:i≤s.length:=by
   rcases Nat.lt_or_ge s.length i with h|h
   ·exact absurd rfl (p4 h)
   ·exact h
  have d0:decide ((i:Int)≤(s.length:Int))=true:=decide_eq_true (by omega);have d3:(j.ble i&&i.ble s.length)=true:=by rw[Nat.ble_eq_true_of_le p1,Nat.ble_eq_true_of_le hi];rfl
  simp only[d0,d1,d2,d3,w1,Int.toNat_natCast,cond_true,Bool.true_and];refine ab (fun h=>?_) (fun h=>?_)
  ·have h:=beq_iff_eq.1 h;exact cut 1 1 _ rfl rfl hi (fun c r hd=>by rw[List.drop_eq_nil_of_le (by omega)]at hd;cases hd)
  ·have h:=beq_eq_false_iff_ne.1 h;refine aa (Nat.ble_eq_true_of_le (by omega)) ?_;cases hd:s.drop i with
   |nil=>have:=gx hd hi;omega
   |cons c r=>
    rw[(eI hd).1];refine ab (fun h=>?_) (fun h=>?_)
    ·exact cut 1 1 _ rfl rfl hi (fun c' r' hd'=>by rw[hd]at hd';cases hd';exact of_decide_eq_true (dot h))
    ·exact go c r hd (of_decide_eq_false (dot h))
 |cons a q=>
  show ah Tryz.prog RB0 9 10 (ad 9) 112 122 [0,2,3,4,5] [.str s,.nilSlice,.slice 0 0 (a::q).length false 0 0,.int .i64 j,.int .i64 i] [.row (strs (a::q)) 9 1] _;rw[rc_round1];unfold zK_1;rcases Nat.lt_or_ge s.length i with hi|hi
  ·rw[decide_eq_false (show ¬((i:Int)≤(s.length:Int)) by omega),cond_false];refine⟨_,_,fun K hK=>?_,oA s j i (a::q) 0 _ rfl rfl⟩;have hK:rU (rcN s (a::q) j i) (rcC s (a::q) j i) s K:=hK;unfold rcN rcC at hK;rw[rcL_out hi]at hK;exact hK j i
  have d0:decide ((i:Int)≤(s.length:Int))=true:=decide_eq_true (by omega);have d3:(j.ble i&&i.ble s.length)=true:=by rw[Nat.ble_eq_true_of_le p1,Nat.ble_eq_true_of_le hi];rfl
  have cat:∀x:List UInt8,strs (a::q)++[V.str x]=strs ((a::q)++[x]):=fun x=>by unfold strs;rw[List.map_append];rfl
  simp only[d0,d1,d2,d3,d5,d6,w1,cat,Int.toNat_natCast,cond_true,Bool.true_and];refine ab (fun h=>?_) (fun h=>?_)
  ·have h:=beq_iff_eq.1 h;exact cut 2 _ _ rfl rfl hi (fun c r hd=>by rw[List.drop_eq_nil_of_le (by omega)]at hd;cases hd)
  ·have h:=beq_eq_false_iff_ne.1 h;refine aa (Nat.ble_eq_true_of_le (by omega)) ?_;cases hd:s.drop i with
   |nil=>have:=gx hd hi;omega
   |cons c r=>
    rw[(eI hd).1];refine ab (fun h=>?_) (fun h=>?_)
    ·exact cut 2 _ _ rfl rfl hi (fun c' r' hd'=>by rw[hd]at hd';cases hd';exact of_decide_eq_true (dot h))
    ·exact go c r hd (of_decide_eq_false (dot h))
noncomputable def lkRC:Nat→Trans→Trans:=aR 122 (br 0 (szOf Tryz.prog 112) [0,2,3,4,5] rcDec jL rcV rcJ rcOut) (ad 9)
theorem lkRC_ok:aD Tryz.prog 0 lkRC 112:=by
 unfold lkRC;exact bo (aP 9 0 112) (by kernel_rfl) fun f st Q h=>aU (P:=Tryz.prog) (T:=RB0) (k:=0) (lim:=9) (n:=10) (g:=112) (p0:=122) (lk:=ad 9) mixed s9 (aS 9 _ _) rcMu rc_roundOk h
noncomputable def RB3:Tab:=⟨noT,noL,cn (aL 9) 112 0 lkRC⟩
theorem RB3_ok:TabOk3 Tryz.prog RB3:=⟨aA,aB,bc (ak 9) lkRC_ok⟩
theorem rcut_tree(s:List UInt8)(R:V→St→Prop):runM Tryz.prog RB3 9 10 112 [.str s] R=
  (
 Fits 0 [.str s,.nilSlice,.nilSlice,.int i64 0,.int i64 0] [] [some (.str s),some .nilSlice,some .nilSlice,some (.int i64 0),some
 (.int i64 0)] []∧bif jL {s:=s,o:=[],j:=0,i:=0}then ∀(j i:Int),R (.slice 0 0 (rcN s [] 0 0) false 0 0) [.row (rcC s [] 0 0) 9 1]else
 False):=by kernel_rfl
def rcutT:List V→Option (List (Bool×(V×St)))
 |[.str s]=>some [(au s,(.slice 0 0 (lsN s []) false 0 0,[.row (lsC s []) 9 1]))]
 |_=>none
theorem rcL_all(s:List UInt8):rcL ⟨s,[],0,0⟩=[]++cD s:=by
 rw[lW (Nat.zero_le _),nA];rfl
theorem rS(args:List V)(l:List (Bool×(V×St)))(o:V×St)(h:rcutT args=some l)(ho:az l=some o):FnSat Tryz.prog 112 args [] (Is o):=by
 unfold rcutT at h;split at h
 ·rename_i s;cases h;obtain⟨hk,rfl⟩:=aJ ho;refine FnSat.fits (dj (lim:=9) (n:=10) mixed RB3_ok ?_);rw[rcut_tree];refine⟨⟨[],[.str s,.nilSlice,.nilSlice,.int .i64 0,.int .i64 0],rfl,rfl,FitsM.of trivial,by simp,fun i hi=>by omega⟩,aa ?_ (fun j i=>?_)⟩
  ·unfold jL;rw[hk];rfl
  ·unfold rcN rcC lsN lsC;rw[rcL_all];exact⟨[0],[.slice 0 0 _ false 0 0],rfl,rfl,FitsM.of ⟨.inr ⟨_,.inl (by simp only[renB,gc]),rfl⟩,trivial⟩,by simp,fun i hi=>by omega⟩
 ·cases h
noncomputable def RB4:Tab:=⟨addP (addT (addT noT 112 rcutT) 148 rdigT) 149 rlabP,noL,aL 9⟩
theorem RB4_ok:TabOk3 Tryz.prog RB4:=⟨aN (aE (aE aA rS) rdig_ok) (fun args v h=>rlab_ok args v h),aB,ak 9⟩
theorem rm_round(s:List UInt8)(o:List V)(n:Nat)(i:Int)(R:Exit→List (Option V)→St→Prop):ah Tryz.prog RB4 9 10 (ad 9) 111 122 [0,2,3,4] [.str s,.bool false,.slice 0 0 n false 0 0,.int .i64 i] [.row o 9 1] R=
  (
 bif decide (i<(↑n:Int))then bif decide (0≤i)&&decide (i<(↑n:Int))then bif (0+i.toNat*1).blt o.length then bif al (o.getD (0+i.toNat*1) (.bool
 false))then bif !bT (ac (o.getD (0+i.toNat*1) (.bool false)))then R .ret [some (.str s),some (.bool false),some (.slice 0 0 n false 0 0),some
 (.int i64 i)] [.row o 9 1]else R .normal [some (.str s),some (.bool false),some (.slice 0 0 n false 0 0),some (.int i64 (i64.wrap
 (i+1)))] [.row o 9 1]else False else False else False else R (.exit 0) [some (.str s),some (.bool false),some (.slice 0 0 n false 0 0),some (.int
 i64 i)] [.row o 9 1]):=by kernel_rfl
structure RM where
 s:List UInt8
 o:List V
 i:Nat
def rmV(x:RM):List V:=[.str x.s,.bool false,.slice 0 0 x.o.length false 0 0,.int .i64 x.i]
def rmJ(x:RM):St:=[.row x.o 9 1]
def oc(x:RM):Bool:=x.o.all al&&(Nat.ble x.o.length 1099511627800&&Nat.ble x.i x.o.length)
def rmMu(x:RM):Nat:=x.o.length-x.i
def rmDec:List (Option V)→St→Option RM
 |[some (.str s),some (.bool false),some (.slice b 0 n false 0 0),some (.int .i64 0)],st=>match st[b]? with
  |some (.row o _ _)=>some ⟨s,o,0⟩
  |_=>none
 |_,_=>none
def kH(o:List V):Bool:=(o.map ac).all bT
def rmOutG(s:List UInt8)(o:List V)(g:Bool)(K:Exit→List V→St→Prop):Prop:=bif g then ∀i:Int,K (.exit 0) [.str s,.bool false,.slice 0 0 o.length false 0 0,.int .i64 i] [.row o 9 1]else ∀i:Int,K .ret [.str s,.bool false,.slice 0 0 o.length false 0 0,.int .i64 i] [.row o 9 1]
def rmOut:Asks RM:=fun x K=>rmOutG x.s x.o (kH (x.o.drop x.i)) K
theorem nr(s:List UInt8)(l:List (List UInt8))(b L:Nat)(i:Int)(hL:L=(strs l).length){st:St}(hb:st[b]?=some (.row (strs l) 9 1)):
  Fits 0 [.str s,.bool false,.slice 0 0 (strs l).length false 0 0,.int .i64 i] [.row (strs l) 9 1] [some (.str s),some (.bool false),some (.slice b 0 L false 0 0),some (.int .i64 i)] st:=by
 subst hL;exact⟨[b],[.str s,.bool false,.slice b 0 (strs l).length false 0 0,.int .i64 i],rfl,rfl,FitsM.of ⟨.inr ⟨_,.inl (by simp only[renB,gc]),hb⟩,trivial⟩,by simp,fun i hi=>by omega⟩
theorem rm_roundOk(x:RM)(hx:oc x=true):ah Tryz.prog RB4 9 10 (ad 9) 111 122 [0,2,3,4] (rmV x) (rmJ x) (ay 0 oc rmV rmJ rmMu rmOut x):=by
 obtain⟨s,o,i⟩:=x;have hx0:=hx;unfold oc at hx;simp only[Bool.and_eq_true]at hx;have q1:o.all al=true:=hx.1;have q2:o.length≤1099511627800:=Nat.le_of_ble_eq_true hx.2.1;have q3:i≤o.length:=Nat.le_of_ble_eq_true hx.2.2;obtain⟨l,rfl⟩:∃l,o=strs l:=⟨o.map ac,(kP q1).symm⟩;show ah Tryz.prog RB4 9 10 (ad 9) 111 122 [0,2,3,4] [.str s,.bool false,.slice 0 0 (strs l).length false 0 0,.int .i64 i] [.row (strs l) 9 1] _;rw[rm_round];rw[aF]at q2 q3;have hA:∀j,kH ((strs l).drop j)=(l.drop j).all bT:=fun j=>by
  have:(strs l).drop j=strs (l.drop j):=by unfold strs;rw[List.map_drop]
  unfold kH;rw[this,ao]
 have out:∀K,rmOut ⟨s,strs l,i⟩ K→rmOutG s (strs l) ((l.drop i).all bT) K:=fun K hK=>by
  have hK:rmOutG s (strs l) (kH ((strs l).drop i)) K:=hK;rw[hA]at hK;exact hK
 rw[aF];cases hd:l.drop i with
 |nil=>
  have hi:=bR hd q3;rw[decide_eq_false (show ¬((i:Int)<(l.length:Int)) by omega),cond_false];refine⟨_,_,fun K hK=>?_,nr s l 0 _ i (by rw[aF]) rfl⟩;have hK:=out K hK;rw[hd]at hK;exact hK i
 |cons c r=>
  obtain⟨e1,e2,e3⟩:=bh hd;obtain⟨e4,e5⟩:=gH hd;have e6:0+i*1=i*1:=by omega
  have w1:i64.wrap ((i:Int)+1)=((i+1:Nat):Int):=by rw[IntWalk.i64_in _ ⟨by omega,by omega⟩];omega
  have d0:decide ((i:Int)<(l.length:Int))=true:=decide_eq_true (by omega);have d1:decide ((0:Int)≤(i:Int))=true:=decide_eq_true (by omega);have e7:i.blt l.length=true:=Nat.ble_eq_true_of_le e3;rw[Nat.mul_one]at e4;simp only[d0,d1,w1,e4,e7,Nat.zero_add,Nat.mul_one,Int.toNat_natCast,al,ac,cond_true,Bool.and_self];refine ab (fun h=>?_) (fun h=>?_)
  ·have h:bT c=false:=by simpa using h
   refine⟨_,_,fun K hK=>?_,nr s l 0 _ i (by rw[aF]) rfl⟩;have hK:=out K hK;rw[hd,List.all_cons,h,Bool.false_and]at hK;exact hK i
  ·have h:bT c=true:=by simpa using h
   refine⟨⟨s,strs l,i+1⟩,?_,nr s l 0 _ _ (by rw[aF]) rfl,by simp only[rmMu,aF];omega,fun K hK=>?_⟩
   ·unfold oc;simp only[Bool.and_eq_true];exact⟨q1,hx.2.1,Nat.ble_eq_true_of_le (by rw[aF];exact e3)⟩
   ·have hK:=out K hK;rw[hd,List.all_cons,h,Bool.true_and,←e2,←hA]at hK;exact hK
noncomputable def lkRM:Nat→Trans→Trans:=aR 122 (br 0 (szOf Tryz.prog 111) [0,2,3,4] rmDec oc rmV rmJ rmOut) (ad 9)
theorem lkRM_ok:aD Tryz.prog 0 lkRM 111:=by
 unfold lkRM;exact bo (aP 9 0 111) (by kernel_rfl) fun f st Q h=>aU (P:=Tryz.prog) (T:=RB4) (k:=0) (lim:=9) (n:=10) (g:=111) (p0:=122) (lk:=ad 9) mixed RB4_ok (aS 9 _ _) rmMu rm_roundOk h
noncomputable def RB5:Tab:=⟨addP (addT (addT noT 112 rcutT) 148 rdigT) 149 rlabP,noL,cn (aL 9) 111 0 lkRM⟩
theorem RB5_ok:TabOk3 Tryz.prog RB5:=⟨aN (aE (aE aA rS) rdig_ok) (fun args v h=>rlab_ok args v h),aB,bc (ak 9) lkRM_ok⟩
noncomputable def zK_2(s:List UInt8):=((lsC s []).getD (0+(i64.wrap ((↑(lsN s []):Int)-1)).toNat*1) (V.bool false))
theorem rmay_tree(s:List UInt8)(R:V→Prop):runW Tryz.prog RB5 9 10 111 [.str s] R=
 (
 bif au s then bif decide ((↑s.length:Int)>253)then R (.bool false)else bif decide (0≤i64.wrap ((↑(lsN s []):Int)-1))&&decide
 (i64.wrap ((↑(lsN s []):Int)-1)<(↑(lsN s []):Int))then bif (0+(i64.wrap ((↑(lsN s []):Int)-1)).toNat*1).blt (lsC s []).length
 then bif al (zK_2 s)then bif au (ac (zK_2 s))then bif bU (ac (zK_2 s))then R (.bool false)else Fits 0 [.str s,.bool false,.slice 0 0
 (lsC s []).length false 0 0,.int i64 0] [.row (lsC s []) 9 1] [some (.str s),some (.bool false),some (.slice 0 0 (lsN s []) false 0 0),some
 (.int i64 0)] [.row (lsC s []) 9 1]∧bif oc {s:=s,o:=lsC s [],i:=0}then bif kH (List.drop 0 (lsC s []))then ∀(i:Int),R
 (.bool true)else ∀(i:Int),R (.bool false)else False else False else False else False else False else False):=by kernel_rfl
theorem nmA_all:∀(k:Nat) (s:List UInt8),s.length<k→nmA k s=((labF k s).all bT,(labF k s).all bT&&bU ((labF k s).getLastD []))
 |0,s,h=>by omega
 |k+1,s,h=>by
  unfold nmA labF;cases hl:bT (cutB s)with
  |false=>
   rw[cond_false];cases cutM s<;>simp[hl]
  |true=>
   rw[cond_true];cases hm:cutM s with
   |false=>simp[hl]
   |true=>
    rw[cond_true,cond_true];have hc:=gM hm;rw[nmA_all k (cutR s) (by omega)];have hne:labF k (cutR s)≠[]:=by
     cases k with
     |zero=>omega
     |succ k=>unfold labF;cases cutM (cutR s)<;>simp
    cases hq:labF k (cutR s)with
    |nil=>exact absurd hq hne
    |cons a q=>simp[hl]
theorem labG_ne:∀(s a:List UInt8),labG a s≠[]
 |[],a=>by simp[labG]
 |c::r,a=>by
  simp only[labG];split
  ·simp
  ·exact labG_ne r _
theorem mayN_all(s:List UInt8):mayN s=(decide (s.length≤253)&&((cD s).all bT&&!bU ((cD s).getLastD []))):=by
 unfold mayN nmO nmD cD;rw[nmA_all _ s (by omega)];cases(labF (s.length+1) s).all bT<;>simp
def rmayT:List V→Option (List (Bool×(V×St)))
 |[.str s]=>some [(au s,(.bool (mayN s),[]))]
 |_=>none
theorem oF:∀(s a:List UInt8),∀x∈labG a s,x.length≤a.length+s.length
 |[],a,x,h=>by simp[labG]at h;subst h;simp
 |c::r,a,x,h=>by
  simp only[labG]at h;split at h
  ·rcases List.mem_cons.1 h with h|h
   ·subst h;simp
   ·have:=oF r [] x h;simp only[List.length_cons,List.length_nil]at*;omega
  ·have:=oF r (a++[c]) x h;simp only[List.length_append,List.length_cons,List.length_nil]at*;omega
theorem rmay_ok(args:List V)(l:List (Bool×(V×St)))(o:V×St)(h:rmayT args=some l)(ho:az l=some o):FnSat Tryz.prog 111 args [] (Is o):=by
 unfold rmayT at h;split at h
 ·rename_i s;cases h;obtain⟨hk,rfl⟩:=aJ ho;have hb:=of_decide_eq_true hk;refine ax (lim:=9) (n:=10) mixed RB5_ok rfl rfl ?_;rw[rmay_tree];unfold zK_2;rw[mayN_all];have eC:lsC s []=strs (cD s):=rfl;have eN:lsN s []=(cD s).length:=rfl;have hlen:=oY s [];have hne:=labG_ne s [];rw[eC,eN];obtain⟨q,z,hq⟩:∃q z,cD s=q++[z]:=by
   rw[←nA]at hne;exact⟨_,_,(List.dropLast_concat_getLast hne).symm⟩
  have hz:z.length≤s.length:=by
   have:=oF s [] z (by rw[←nA,hq];simp);simpa using this
  rw[←nA]at hlen;have hL:(cD s).length=q.length+1:=by rw[hq];simp
  have w:i64.wrap (((cD s).length:Int)-1)=(q.length:Int):=by rw[hL,IntWalk.i64_in _ ⟨by omega,by omega⟩];omega
  have g:(strs (cD s)).getD q.length (.bool false)=.str z:=by
   rw[hq];unfold strs;rw[List.map_append,List.getD_eq_getElem?_getD,List.getElem?_append_right (by simp)];simp
  have last:(cD s).getLastD []=z:=by rw[hq];simp
  have d1:(decide (0≤(q.length:Int))&&decide ((q.length:Int)<((cD s).length:Int)))=true:=by rw[hL];simp;omega
  have d2:q.length.blt (strs (cD s)).length=true:=Nat.ble_eq_true_of_le (by rw[aF,hL];omega);have d3:au z=true:=decide_eq_true (by omega);simp only[w,Int.toNat_natCast,Nat.mul_one,Nat.zero_add,d1,d2,g,d3,al,ac,last,hk,cond_true];refine ab (fun h=>?_) (fun h=>ab (fun h1=>?_) (fun h1=>⟨?_,aa ?_ ?_⟩))
  ·have h:=of_decide_eq_true h;rw[decide_eq_false (show ¬s.length≤253 by omega)];rfl
  ·rw[h1,Bool.not_true,Bool.and_false,Bool.and_false]
  ·exact nr s (cD s) 0 _ 0 (by rw[aF]) rfl
  ·unfold oc;simp only[Bool.and_eq_true];exact⟨bZ _,Nat.ble_eq_true_of_le (by rw[aF];omega),Nat.ble_eq_true_of_le (Nat.zero_le _)⟩
  ·have h:=of_decide_eq_false h;have e:(decide (s.length≤253)&&((cD s).all bT&&!bU z))=(cD s).all bT:=by
    rw[decide_eq_true (show s.length≤253 by omega),h1,Bool.not_false,Bool.and_true,Bool.true_and]
   have e2:kH (List.drop 0 (strs (cD s)))=(cD s).all bT:=by unfold kH;rw[List.drop_zero,ao]
   rw[e2,e];cases(cD s).all bT with
   |true=>exact fun _=>rfl
   |false=>exact fun _=>rfl
 ·cases h
theorem rbare_tree(s:List UInt8)(R:V→Prop):runW Tryz.prog RB0 9 10 110 [.str s] R=
  (
 bif decide ((↑s.length:Int)>1)then bif true&&Nat.ble 2 s.length then bif List.take 2 (List.drop 0 s)==[42,46]then bif Nat.ble 2 s.length&&s.length.ble
 s.length then R (.tuple [.str (List.take (s.length-2) (List.drop 2 s)),.bool true])else False else R (.tuple [.str s,.bool false])else False else R (.tuple
 [.str s,.bool false])):=by kernel_rfl
def rV:List V→Option V
 |[.str s]=>some (.tuple [.str (cm s),.bool (ec s)])
 |_=>none
theorem rbare_ok(args:List V)(v:V)(h:rV args=some v):FnSat Tryz.prog 110 args [] (Is (v,[])):=by
 unfold rV at h;split at h
 ·rename_i s;cases h;refine ax (lim:=9) (n:=10) mixed s9 rfl rfl ?_;rw[rbare_tree];unfold cm ec;have hd:List.drop 0 s=s:=rfl;rw[hd];refine ab (fun h=>?_) (fun h=>?_)
  ·have h:=of_decide_eq_true h;refine aa (by rw[Bool.true_and];exact Nat.ble_eq_true_of_le (by omega)) (ab (fun h1=>aa ?_ ?_) (fun h1=>?_))
   ·rw[Nat.ble_eq_true_of_le (show 2≤s.length by omega),Nat.ble_eq_true_of_le (Nat.le_refl _)];rfl
   ·rw[if_pos (beq_iff_eq.1 h1),h1,List.take_of_length_le (by simp)]
   ·rw[if_neg (beq_eq_false_iff_ne.1 h1),h1]
  ·have h:=of_decide_eq_false h;have n:s.take 2≠[42,46]:=fun e=>by
    have:=congrArg List.length e;simp at this;omega
   rw[if_neg n,beq_false_of_ne n]
 ·cases h
noncomputable def RM0:Tab:=⟨addT (addT (addP noT 110 rV) 111 rmayT) 112 rcutT,noL,aL 9⟩
theorem RM0_ok:TabOk3 Tryz.prog RM0:=⟨aE (aE (aN aA rbare_ok) rmay_ok) rS,aB,ak 9⟩
theorem rpat_tree(s:List UInt8)(R:V→Prop):runW Tryz.prog RM0 9 10 172 [.str s] R=
  (
 bif au (cm s)then R (.bool (mayN (cm s)))else False):=by kernel_rfl
theorem rlabs_tree(s:List UInt8)(R:V→St→Prop):runM Tryz.prog RM0 9 10 73 [.str s] R=
  (
 bif au s then bif !mayN s then R .nilSlice []else bif au s then R (.slice 0 0 (lsN s []) false 0 0) [.row (lsC s []) 9 1]else False else False):=by kernel_rfl
noncomputable def zL_0(s:List UInt8):=((↑(ac ((lsC s []).getD 0 (V.bool false))).length:Int)+1)
theorem rpar_tree(s:List UInt8)(R:V→Prop):runW Tryz.prog RM0 9 10 72 [.str s] R=
 (
 bif au s then bif !mayN s then R (.tuple [.str [],.bool false])else bif au s then bif decide ((↑(lsN s []):Int)<2)then R (.tuple [.str [],
 .bool false])else bif true&&decide (0<(↑(lsN s []):Int))then bif Nat.blt 0 (lsC s []).length then bif al ((lsC s []).getD 0 (.bool false))then bif
 decide (0≤i64.wrap (zL_0 s))then bif (i64.wrap (zL_0 s)).toNat.ble s.length&&s.length.ble s.length then R (.tuple [.str (List.take
 (s.length-(i64.wrap (zL_0 s)).toNat) (List.drop (i64.wrap (zL_0 s)).toNat s)),.bool true])else False else False else False else False else
 False else False else False):=by kernel_rfl
theorem ko{s:List UInt8}(h:au s=true):au (cm s)=true:=by
 unfold au at*
 have h:=of_decide_eq_true h;refine decide_eq_true ?_;unfold cm;split
 ·simp;omega
 ·exact h
def rpatT:List V→Option (List (Bool×(V×St)))
 |[.str s]=>some [(au s,(.bool (patN s),[]))]
 |_=>none
theorem rpat_ok(args:List V)(l:List (Bool×(V×St)))(o:V×St)(h:rpatT args=some l)(ho:az l=some o):FnSat Tryz.prog 172 args [] (Is o):=by
 unfold rpatT at h;split at h
 ·rename_i s;cases h;obtain⟨hk,rfl⟩:=aJ ho;refine ax (lim:=9) (n:=10) mixed RM0_ok rfl rfl ?_;rw[rpat_tree];exact aa (ko hk) rfl
 ·cases h
def rlabsT:List V→Option (List (Bool×(V×St)))
 |[.str s]=>some [(au s&&mayN s,(.slice 0 0 (lsN s []) false 0 0,[.row (lsC s []) 9 1])),(au s&&!mayN s,(.nilSlice,[]))]
 |_=>none
theorem rlabs_ok(args:List V)(l:List (Bool×(V×St)))(o:V×St)(h:rlabsT args=some l)(ho:az l=some o):FnSat Tryz.prog 73 args [] (Is o):=by
 unfold rlabsT at h;split at h
 ·rename_i s;cases h;cases hk:au s with
  |false=>rw[hk]at ho;simp[az]at ho
  |true=>
  rw[hk,Bool.true_and,Bool.true_and]at ho;refine FnSat.fits (dj (lim:=9) (n:=10) mixed RM0_ok ?_);rw[rlabs_tree,hk];cases hm:mayN s with
  |true=>
   rw[hm]at ho;cases ho;exact⟨[0],[.slice 0 0 _ false 0 0],rfl,rfl,FitsM.of ⟨.inr ⟨_,.inl (by unfold lsC;simp only[renB,gc]),rfl⟩,trivial⟩,by simp,fun i hi=>by omega⟩
  |false=>
   rw[hm]at ho;cases ho;exact⟨[],[.nilSlice],rfl,rfl,FitsM.of trivial,by simp,fun i hi=>by omega⟩
 ·cases h
theorem po:∀s:List UInt8,match(cutA s).2 with
  |none=>(cutA s).1=s
  |some r=>s=(cutA s).1++46::r
 |[]=>rfl
 |c::r=>by
  by_cases hc:c=46
  ·simp[cutA,hc]
  ·have:=po r;simp only[cutA,if_neg hc];cases h:(cutA r).2 with
   |none=>rw[h]at this;simp only at this ⊢;rw[this]
   |some t=>rw[h]at this;simp only at this ⊢;rw[List.cons_append,←this]
theorem cut_drop{s:List UInt8}(h:cutM s=true):s.drop ((cutB s).length+1)=cutR s∧(cutB s).length+1≤s.length:=by
 have:=po s;unfold cutM at h;unfold cutB cutR;cases hc:(cutA s).2 with
 |none=>rw[hc]at h;cases h
 |some r=>
  rw[hc]at this;simp only at this;have hl:=congrArg List.length this;rw[List.length_append,List.length_cons]at hl;refine⟨?_,by omega⟩;rw[Option.getD_some];have e:s.drop ((cutA s).1.length+1)=((cutA s).1++46::r).drop ((cutA s).1.length+1):=by rw[←this]
  rw[e,List.drop_append,List.drop_eq_nil_of_le (by omega),List.nil_append,show(cutA s).1.length+1-(cutA s).1.length=1 by omega];rfl
theorem oX(s:List UInt8):∃q,cD s=cutB s::q∧(q=[]↔cutM s=false):=by
 unfold cD labF;cases hm:cutM s with
 |false=>exact⟨[],rfl,by simp⟩
 |true=>
  rw[cond_true];refine⟨_,rfl,?_⟩;have:=gM hm;cases hk:s.length with
  |zero=>omega
  |succ k=>unfold labF;cases cutM (cutR s)<;>simp
def rparT:List V→Option (List (Bool×(V×St)))
 |[.str s]=>some [(au s,(.tuple [.str (bif parB s then cutR s else[]),.bool (parB s)],[]))]
 |_=>none
theorem rpar_ok(args:List V)(l:List (Bool×(V×St)))(o:V×St)(h:rparT args=some l)(ho:az l=some o):FnSat Tryz.prog 72 args [] (Is o):=by
 unfold rparT at h;split at h
 ·rename_i s;cases h;obtain⟨hk,rfl⟩:=aJ ho;have hb:=of_decide_eq_true hk;refine ax (lim:=9) (n:=10) mixed RM0_ok rfl rfl ?_;rw[rpar_tree,hk,cond_true];unfold zL_0;unfold parB;cases hm:mayN s with
  |false=>simp
  |true=>
  obtain⟨q,hq,hc⟩:=oX s;have eC:lsC s []=strs (cutB s::q):=by unfold lsC;rw[List.nil_append,hq]
  have eN:lsN s []=q.length+1:=by unfold lsN;rw[List.nil_append,hq];rfl
  rw[eC,eN,Bool.and_true,Bool.not_true,cond_false,cond_true];have g:(strs (cutB s::q)).getD 0 (.bool false)=.str (cutB s):=rfl;refine ab (fun h=>?_) (fun h=>?_)
  ·have h:=of_decide_eq_true h;have:q=[]:=List.length_eq_zero_iff.1 (by omega);rw[hc.1 this];rfl
  ·have h:=of_decide_eq_false h;have hcm:cutM s=true:=by
    cases hcm:cutM s with
    |true=>rfl
    |false=>have:=hc.2 hcm;subst this;simp at h
   obtain⟨c1,c2⟩:=cut_drop hcm;have w:i64.wrap (((cutB s).length:Int)+1)=(((cutB s).length+1:Nat):Int):=by rw[IntWalk.i64_in _ ⟨by omega,by omega⟩];omega
   simp only[g,ac,al,w,Int.toNat_natCast,c1,hcm,cond_true];refine aa (by rw[Bool.true_and];exact decide_eq_true (by omega)) (aa rfl (aa (decide_eq_true (by omega)) (aa ?_ ?_)))
   ·rw[Nat.ble_eq_true_of_le c2,Nat.ble_eq_true_of_le (Nat.le_refl _)];rfl
   ·rw[List.take_of_length_le];rw[←c1,List.length_drop];omega
 ·cases h
noncomputable def RM1:Tab:=⟨addT (addT (addP noT 110 rV) 111 rmayT) 72 rparT,noL,aL 9⟩
theorem RM1_ok:TabOk3 Tryz.prog RM1:=⟨aE (aE (aN aA rbare_ok) rmay_ok) rpar_ok,aB,ak 9⟩
theorem rmat_tree(p s:List UInt8)(R:V→Prop):runW Tryz.prog RM1 9 10 71 [.str p,.str s] R=
  (
 bif au (cm p)then bif !mayN (cm p)then R (.bool false)else bif au s then bif !mayN s then R (.bool false)else bif !ec p then R (.bool (cm p==
 s))else bif au s then bif parB s then R (.bool ((bif parB s then cutR s else[])==cm p))else R (.bool false)else False else False else False):=by kernel_rfl
def rmatT:List V→Option (List (Bool×(V×St)))
 |[.str p,.str s]=>some [(au p&&au s,(.bool (fJ p s),[]))]
 |_=>none
theorem rmat_ok(args:List V)(l:List (Bool×(V×St)))(o:V×St)(h:rmatT args=some l)(ho:az l=some o):FnSat Tryz.prog 71 args [] (Is o):=by
 unfold rmatT at h;split at h
 ·rename_i p s;cases h;obtain⟨hk,rfl⟩:=aJ ho;rw[Bool.and_eq_true]at hk;have h1:=ko hk.1;refine ax (lim:=9) (n:=10) mixed RM1_ok rfl rfl ?_;rw[rmat_tree,h1,hk.2];unfold fJ patN;cases hp:mayN (cm p)with
  |false=>rfl
  |true=>
  cases hm:mayN s with
  |false=>rfl
  |true=>
  cases hs:ec p with
  |false=>
   have:cm p=p:=by
    unfold cm;unfold ec at hs;rw[if_neg (beq_eq_false_iff_ne.1 hs)]
   rw[this];rfl
  |true=>
   cases hb:parB s with
   |false=>rfl
   |true=>rfl
 ·cases h
noncomputable def RT0:Tab:=⟨addT noT 167 putF,noL,aL 9⟩
theorem RT0_ok:TabOk3 Tryz.prog RT0:=⟨aE aA rput_ok,aB,ak 9⟩
theorem rth_tree(t:Int)(s:List UInt8)(R:V→Prop):runW Tryz.prog RT0 9 10 133 [.int .u8 t,.str s] R=
  (
 bif eZ t then R (.str (putB t s))else False):=by kernel_rfl
def rthT:List V→Option (List (Bool×(V×St)))
 |[.int .u8 t,.str s]=>some [(eZ t,(.str (putB t s),[]))]
 |_=>none
theorem rth_ok(args:List V)(l:List (Bool×(V×St)))(o:V×St)(h:rthT args=some l)(ho:az l=some o):FnSat Tryz.prog 133 args [] (Is o):=by
 unfold rthT at h;split at h
 ·rename_i t s;cases h;obtain⟨hk,rfl⟩:=aJ ho;refine ax (lim:=9) (n:=10) mixed RT0_ok rfl rfl ?_;rw[rth_tree];exact aa hk rfl
 ·cases h
noncomputable def RT1:Tab:=⟨addT (addT noT 133 rthT) 172 rpatT,noL,aL 9⟩
theorem RT1_ok:TabOk3 Tryz.prog RT1:=⟨aE (aE aA rth_ok) rpat_ok,aB,ak 9⟩
theorem rspki_tree(k:List UInt8)(R:V→Prop):runW Tryz.prog RT1 9 10 91 [.str k] R=
  (
 bif decide ((↑k.length:Int)<1)then R (.str [])else bif decide ((↑k.length:Int)>64)then R (.str [])else R (.str (putB 48 (putB 4 k)))):=by kernel_rfl
theorem rmy_round(k g:List UInt8)(x:Value)(n:Nat)(cs:List V)(f u:Int)(ca:Bool)(i:Int)(R:Exit→List (Option V)→St→Prop):ah Tryz.prog RT1 9 10 (ad 9) 145 26 [1,2,3] [.ptr 0 0,.bool false,.int .i64 i] [.row [.str k,.str g,.lst x n cs,.int .i64 f,.int .i64 u,.bool ca] 57 6] R=
  (
 bif decide (i<(↑n:Int))then bif decide (0≤i)&&decide (i<(↑n:Int))then bif (i.toNat*1).blt cs.length then bif al (cs.getD (i.toNat*1) (.bool false))
 then bif au (ac (cs.getD (i.toNat*1) (.bool false)))then bif !patN (ac (cs.getD (i.toNat*1) (.bool false)))then R .ret [some (.ptr 0 0),some
 (.bool false),some (.int i64 i)] [.row [.str k,.str g,.lst x n cs,.int i64 f,.int i64 u,.bool ca] 57 6]else R .normal [some
 (.ptr 0 0),some (.bool false),some (.int i64 (i64.wrap (i+1)))] [.row [.str k,.str g,.lst x n cs,.int i64 f,.int i64 u,
 .bool ca] 57 6]else False else False else False else False else R (.exit 0) [some (.ptr 0 0),some (.bool false),some (.int i64 i)] [.row [.str k,
 .str g,.lst x n cs,.int i64 f,.int i64 u,.bool ca] 57 6]):=by kernel_rfl
theorem ren_round(k g:List UInt8)(x:Value)(n:Nat)(cs:List V)(f u:Int)(ca:Bool)(o:List UInt8)(i:Int)(R:Exit→List (Option V)→St→Prop):ah Tryz.prog RT1 9 10 (ad 9) 109 122 [1,2,3,4,5] [.ptr 0 0,.str [],.int .i64 0,.str o,.int .i64 i] [.row [.str k,.str g,.lst x n cs,.int .i64 f,.int .i64 u,.bool ca] 57 6] R=
  (
 bif decide (i<(↑n:Int))then bif decide (0≤i)&&decide (i<(↑n:Int))then bif (i.toNat*1).blt cs.length then bif al (cs.getD (i.toNat*1) (.bool false))
 then bif (o.length+(putB 130 (ac (cs.getD (i.toNat*1) (.bool false)))).length).ble 9223372036854775807 then R .normal [some (.ptr 0 0),some (.str []),
 some (.int i64 0),some (.str (o++putB 130 (ac (cs.getD (i.toNat*1) (.bool false))))),some (.int i64 (i64.wrap (i+1)))] [.row
 [.str k,.str g,.lst x n cs,.int i64 f,.int i64 u,.bool ca] 57 6]else False else False else False else False else R (.exit 0) [some (.ptr
 0 0),some (.str []),some (.int i64 0),some (.str o),some (.int i64 i)] [.row [.str k,.str g,.lst x n cs,.int i64 f,.int
 i64 u,.bool ca] 57 6]):=by kernel_rfl
theorem n5(args:List V)(v:V)(h:kQ args=some v):FnSat Tryz.prog 91 args [] (Is (v,[])):=by
 unfold kQ at h;split at h
 ·rename_i k;cases h;refine ax (lim:=9) (n:=10) mixed RT1_ok rfl rfl ?_;rw[rspki_tree];unfold bN;refine ab (fun h=>?_) (fun h=>ab (fun h1=>?_) (fun h1=>?_))
  ·have h:=of_decide_eq_true h;have:k=[]:=List.length_eq_zero_iff.1 (by omega);rw[if_pos this]
  ·have h:=of_decide_eq_false h;have h1:=of_decide_eq_true h1;rw[if_neg (fun e=>by subst e;simp at h),if_pos (by omega)]
  ·have h:=of_decide_eq_false h;have h1:=of_decide_eq_false h1;rw[if_neg (fun e=>by subst e;simp at h),if_neg (by omega)]
 ·cases h
structure RMY where
 c:CT
 i:Nat
def rmyV(y:RMY):List V:=[.ptr 0 0,.bool false,.int .i64 y.i]
def rmyJ(y:RMY):St:=[.row y.c.cells 57 6]
def okLs2(cs:List V):Bool:=(cs.map ac).all au
def j5(y:RMY):Bool:=okS y.c.n y.c.cs&&(okLs2 y.c.cs&&Nat.ble y.i y.c.n)
def rmyMu(y:RMY):Nat:=y.c.n-y.i
def rmyDec:List (Option V)→St→Option RMY
 |[some (.ptr 0 0),some (.bool false),some (.int .i64 0)],(.row [.str k,.str g,.lst x n cs,.int .i64 f,.int .i64 u,.bool ca] _ _)::_=>some ⟨⟨k,g,x,n,cs,f,u,ca⟩,0⟩
 |_,_=>none
def rL(c:CT)(b:Bool)(K:Exit→List V→St→Prop):Prop:=
 bif b then ∀j:Int,K (.exit 0) [.ptr 0 0,.bool false,.int .i64 j] [.row c.cells 57 6]else ∀j:Int,K .ret [.ptr 0 0,.bool false,.int .i64 j] [.row c.cells 57 6]
def rmyOut:Asks RMY:=fun y K=>rL y.c (allP (y.c.cs.drop y.i)) K
theorem kY(c:CT)(j:Int):Fits 0 [.ptr 0 0,.bool false,.int .i64 j] [.row c.cells 57 6] [some (.ptr 0 0),some (.bool false),some (.int .i64 j)] [.row c.cells 57 6]:=
 ⟨[0],[.ptr 0 0,.bool false,.int .i64 j],rfl,rfl,FitsM.of ⟨.inr ⟨_,.inl rfl,rfl⟩,trivial⟩,by simp,fun i hi=>by omega⟩
theorem rmy_roundOk(y:RMY)(hx:j5 y=true):ah Tryz.prog RT1 9 10 (ad 9) 145 26 [1,2,3] (rmyV y) (rmyJ y) (ay 0 j5 rmyV rmyJ rmyMu rmyOut y):=by
 obtain⟨⟨k,g,x,n,cs,f,u,ca⟩,i⟩:=y;unfold j5 at hx;simp only[Bool.and_eq_true]at hx;have hx1:okS n cs=true:=hx.1;have hx2:okLs2 cs=true:=hx.2.1;have p1:i≤n:=Nat.le_of_ble_eq_true hx.2.2;obtain⟨l,rfl,rfl,p2,p3⟩:=c9 hx1;have hl:∀c∈l,au c=true:=by
  unfold okLs2 at hx2;rw[ao]at hx2;exact List.all_eq_true.1 hx2
 show ah Tryz.prog RT1 9 10 (ad 9) 145 26 [1,2,3] [.ptr 0 0,.bool false,.int .i64 i] [.row [.str k,.str g,.lst x l.length (strs l),.int .i64 f,.int .i64 u,.bool ca] 57 6] _;rw[rmy_round];have hA:∀j,allP ((strs l).drop j)=(l.drop j).all patN:=fun j=>by
  have:(strs l).drop j=strs (l.drop j):=by unfold strs;rw[List.map_drop]
  unfold allP;rw[this,ao]
 have out:∀K,rmyOut ⟨⟨k,g,x,l.length,strs l,f,u,ca⟩,i⟩ K→rL ⟨k,g,x,l.length,strs l,f,u,ca⟩ ((l.drop i).all patN) K:=fun K hK=>by
  have hK:rL ⟨k,g,x,l.length,strs l,f,u,ca⟩ (allP ((strs l).drop i)) K:=hK;rw[hA]at hK;exact hK
 cases hd:l.drop i with
 |nil=>
  have hi:=bR hd p1;rw[decide_eq_false (show ¬((i:Int)<(l.length:Int)) by omega),cond_false];refine⟨_,_,fun K hK=>?_,kY ⟨k,g,x,l.length,strs l,f,u,ca⟩ i⟩;have hK:=out K hK;rw[hd]at hK;exact hK i
 |cons c r=>
  obtain⟨e1,e2,e3⟩:=bh hd;obtain⟨e4,e5⟩:=gH hd;have w1:i64.wrap ((i:Int)+1)=((i+1:Nat):Int):=by rw[IntWalk.i64_in _ ⟨by omega,by omega⟩];omega
  have d0:decide ((i:Int)<(l.length:Int))=true:=decide_eq_true (by omega);have d1:decide ((0:Int)≤(i:Int))=true:=decide_eq_true (by omega);have d2:au c=true:=hl c (List.mem_of_getElem? e1);simp only[d0,d1,d2,w1,e4,e5,Int.toNat_natCast,al,ac,cond_true,Bool.and_self];refine ab (fun h=>?_) (fun h=>?_)
  ·have h:patN c=false:=by simpa using h
   refine⟨_,_,fun K hK=>?_,kY ⟨k,g,x,l.length,strs l,f,u,ca⟩ i⟩;have hK:=out K hK;rw[hd,List.all_cons,h,Bool.false_and]at hK;exact hK i
  ·have h:patN c=true:=by simpa using h
   refine⟨⟨⟨k,g,x,l.length,strs l,f,u,ca⟩,i+1⟩,?_,kY ⟨k,g,x,l.length,strs l,f,u,ca⟩ _,by simp only[rmyMu];omega,fun K hK=>?_⟩
   ·unfold j5;simp only[Bool.and_eq_true];exact⟨hx1,hx2,Nat.ble_eq_true_of_le e3⟩
   ·have hK:=out K hK;rw[hd,List.all_cons,h,Bool.true_and,←e2,←hA]at hK;exact hK
noncomputable def lkRMY:Nat→Trans→Trans:=aR 26 (br 0 (szOf Tryz.prog 145) [1,2,3] rmyDec j5 rmyV rmyJ rmyOut) (ad 9)
theorem lkRMY_ok:aD Tryz.prog 0 lkRMY 145:=by
 unfold lkRMY;exact bo (aP 9 0 145) (by kernel_rfl) fun f st Q h=>aU (P:=Tryz.prog) (T:=RT1) (k:=0) (lim:=9) (n:=10) (g:=145) (p0:=26) (lk:=ad 9) mixed RT1_ok (aS 9 _ _) rmyMu rmy_roundOk h
noncomputable def RT2:Tab:=⟨noT,noL,cn (aL 9) 145 0 lkRMY⟩
theorem RT2_ok:TabOk3 Tryz.prog RT2:=⟨aA,aB,bc (ak 9) lkRMY_ok⟩
theorem rcmay_tree(k g:List UInt8)(x:Value)(n:Nat)(cs:List V)(f u:Int)(ca:Bool)(R:V→Prop):runW Tryz.prog RT2 9 10 145 [.agg [.str k,.str g,.lst x n cs,.int .i64 f,.int .i64 u,.bool ca]] R=
  (
 Fits 0 [.ptr 0 0,.bool false,.int i64 0] [.row [.str k,.str g,.lst x n cs,.int i64 f,.int i64 u,.bool ca] 57 6] [some (.ptr 0
 0),some (.bool false),some (.int i64 0)] [.row [.str k,.str g,.lst x n cs,.int i64 f,.int i64 u,.bool ca] 57 6]∧bif j5 {c:={k:=k,g:=g,x:=x,n:=n,cs:=cs,f:=f,u:=u,ca:=ca},i:=0}
 then bif allP cs then ∀(j:Int),bif decide ((↑k.length:Int)≥1)then bif decide ((↑k.length:Int)≤64)then bif (↑g.length:Int)==32 then bif decide (f≥0)
 then bif decide (f≤1099511627776)then bif decide (u≥0)then R (.bool (decide (u≤1099511627776)))else R (.bool false)else R (.bool false)else R (.bool false)
 else R (.bool false)else R (.bool false)else R (.bool false)else ∀(j:Int),R (.bool false)else False):=by kernel_rfl
theorem rcmay_sat(k g:List UInt8)(x:Value)(l:List (List UInt8))(f u:Int)(ca:Bool)(hl:l.length≤9223372036854775807)(ho:l.all au=true):FnSat Tryz.prog 145 [.agg [.str k,.str g,lstS x l,.int .i64 f,.int .i64 u,.bool ca]] [] (Is (.bool (mayC k g f u&&l.all patN),[])):=by
 refine ax (lim:=9) (n:=10) mixed RT2_ok rfl rfl ?_;unfold lstS;rw[rcmay_tree];refine⟨kY ⟨k,g,x,l.length,strs l,f,u,ca⟩ 0,aa ?_ ?_⟩
 ·unfold j5 okLs2;simp only[Bool.and_eq_true,ao];exact⟨ip hl,ho,Nat.ble_eq_true_of_le (Nat.zero_le _)⟩
 have ha:allP (strs l)=l.all patN:=by unfold allP;rw[ao]
 rw[ha];cases l.all patN with
 |false=>exact fun _=>by rw[Bool.and_false]
 |true=>
 intro _;rw[Bool.and_true];unfold mayC;have e:decide ((k.length:Int)>0)=decide ((k.length:Int)≥1):=by
  rw[Bool.eq_iff_iff,decide_eq_true_eq,decide_eq_true_eq];omega
 rw[e];refine ab (fun h=>?_) (fun h=>by rw[h];rfl);rw[h];refine ab (fun h=>?_) (fun h=>by rw[h];rfl);rw[h];refine ab (fun h=>?_) (fun h=>by rw[h];rfl);rw[h];refine ab (fun h=>?_) (fun h=>by rw[h];rfl);rw[h];refine ab (fun h=>?_) (fun h=>by rw[h];rfl);rw[h];refine ab (fun h=>?_) (fun h=>by rw[h];rfl);rw[h];simp only[Bool.true_and]
def rcmayG:List V→St→Option (List (Bool×(V×St)))
 |[.agg [.str k,.str g,p,.int .i64 f,.int .i64 u,.bool _]],st=>match bJ st p with
  |some (b,l)=>some [(b&&(Nat.ble l.length 9223372036854775807&&l.all au),(.bool (mayC k g f u&&l.all patN),st))]
  |none=>none
 |_,_=>none
theorem rcmayG_ok(args:List V)(s:St)(l:List (Bool×(V×St)))(o:V×St)(h:rcmayG args s=some l)(ho:az l=some o):FnSat Tryz.prog 145 args s (Is o):=by
 unfold rcmayG at h;split at h
 ·rename_i k g p f u ca;split at h
  ·rename_i b ls hv;cases h;obtain⟨hb,rfl⟩:=aJ ho;simp only[Bool.and_eq_true]at hb;obtain⟨rfl,h1,h2⟩:=hb;refine cE rfl fun B W0 w m rargs hr ha=>?_;obtain⟨a,r,q1,q2,rfl⟩:=aj ha;simp only[ai,Option.some.injEq]at q2;subst q2;obtain⟨y,hy⟩:=pt hr hv q1;exact⟨[.agg [.str k,.str g,lstS y ls,.int .i64 f,.int .i64 u,.bool ca]],by simp only[ai,hy],@rcmay_sat (Frz.of w) k g y ls f u ca (Nat.le_of_ble_eq_true h1) h2⟩
  ·cases h
 ·cases h
structure REN where
 c:CT
 o:List UInt8
 i:Nat
def renV'(y:REN):List V:=[.ptr 0 0,.str [],.int .i64 0,.str y.o,.int .i64 y.i]
def renJ(y:REN):St:=[.row y.c.cells 57 6]
def j6(y:REN):Bool:=okS y.c.n y.c.cs&&(allP y.c.cs&&(Nat.ble y.i y.c.n&&(Nat.ble y.c.n 64&&Nat.ble y.o.length (y.i*300))))
def renMu(y:REN):Nat:=y.c.n-y.i
def renDec:List (Option V)→St→Option REN
 |[some (.ptr 0 0),some (.str []),some (.int .i64 0),some (.str []),some (.int .i64 0)],(.row [.str k,.str g,.lst x n cs,.int .i64 f,.int .i64 u,.bool ca] _ _)::_=>some ⟨⟨k,g,x,n,cs,f,u,ca⟩,[],0⟩
 |_,_=>none
def nmsB(cs:List V):List UInt8:=((cs.map ac).map du).flatten
def rQ(c:CT)(o:List UInt8)(K:Exit→List V→St→Prop):Prop:=∀j:Int,K (.exit 0) [.ptr 0 0,.str [],.int .i64 0,.str o,.int .i64 j] [.row c.cells 57 6]
def renOut:Asks REN:=fun y K=>rQ y.c (y.o++nmsB (y.c.cs.drop y.i)) K
theorem od(c:CT)(o:List UInt8)(j:Int):Fits 0 [.ptr 0 0,.str [],.int .i64 0,.str o,.int .i64 j] [.row c.cells 57 6] [some (.ptr 0 0),some (.str []),some (.int .i64 0),some (.str o),some (.int .i64 j)] [.row c.cells 57 6]:=
 ⟨[0],[.ptr 0 0,.str [],.int .i64 0,.str o,.int .i64 j],rfl,rfl,FitsM.of ⟨.inr ⟨_,.inl rfl,rfl⟩,trivial⟩,by simp,fun i hi=>by omega⟩
theorem ren_roundOk(y:REN)(hx:j6 y=true):ah Tryz.prog RT1 9 10 (ad 9) 109 122 [1,2,3,4,5] (renV' y) (renJ y) (ay 0 j6 renV' renJ renMu renOut y):=by
 obtain⟨⟨k,g,x,n,cs,f,u,ca⟩,o,i⟩:=y;unfold j6 at hx;simp only[Bool.and_eq_true]at hx;have hx1:okS n cs=true:=hx.1;have hx2:allP cs=true:=hx.2.1;have p1:i≤n:=Nat.le_of_ble_eq_true hx.2.2.1;have p4:n≤64:=Nat.le_of_ble_eq_true hx.2.2.2.1;have p5:o.length≤i*300:=Nat.le_of_ble_eq_true hx.2.2.2.2;obtain⟨l,rfl,rfl,p2,p3⟩:=c9 hx1;have hl:∀c∈l,patN c=true:=by
  unfold allP at hx2;rw[ao]at hx2;exact List.all_eq_true.1 hx2
 show ah Tryz.prog RT1 9 10 (ad 9) 109 122 [1,2,3,4,5] [.ptr 0 0,.str [],.int .i64 0,.str o,.int .i64 i] [.row [.str k,.str g,.lst x l.length (strs l),.int .i64 f,.int .i64 u,.bool ca] 57 6] _;rw[ren_round];have hA:∀j,nmsB ((strs l).drop j)=((l.drop j).map du).flatten:=fun j=>by
  have:(strs l).drop j=strs (l.drop j):=by unfold strs;rw[List.map_drop]
  unfold nmsB;rw[this,ao]
 have out:∀K,renOut ⟨⟨k,g,x,l.length,strs l,f,u,ca⟩,o,i⟩ K→rQ ⟨k,g,x,l.length,strs l,f,u,ca⟩ (o++((l.drop i).map du).flatten) K:=fun K hK=>by
  have hK:rQ ⟨k,g,x,l.length,strs l,f,u,ca⟩ (o++nmsB ((strs l).drop i)) K:=hK;rw[hA]at hK;exact hK
 cases hd:l.drop i with
 |nil=>
  have hi:=bR hd p1;rw[decide_eq_false (show ¬((i:Int)<(l.length:Int)) by omega),cond_false];refine⟨_,_,fun K hK=>?_,od ⟨k,g,x,l.length,strs l,f,u,ca⟩ o i⟩;have hK:=out K hK;rw[hd,List.map_nil,List.flatten_nil,List.append_nil]at hK;exact hK i
 |cons c r=>
  obtain⟨e1,e2,e3⟩:=bh hd;obtain⟨e4,e5⟩:=gH hd;have w1:i64.wrap ((i:Int)+1)=((i+1:Nat):Int):=by rw[IntWalk.i64_in _ ⟨by omega,by omega⟩];omega
  have d0:decide ((i:Int)<(l.length:Int))=true:=decide_eq_true (by omega);have d1:decide ((0:Int)≤(i:Int))=true:=decide_eq_true (by omega);have hc:=jr (hl c (List.mem_of_getElem? e1));have hp:=bB 130 c;have d2:(o.length+(putB 130 c).length).ble 9223372036854775807=true:=Nat.ble_eq_true_of_le (by omega);simp only[d0,d1,d2,w1,e4,e5,Int.toNat_natCast,al,ac,cond_true,Bool.and_self];refine⟨⟨⟨k,g,x,l.length,strs l,f,u,ca⟩,o++putB 130 c,i+1⟩,?_,od ⟨k,g,x,l.length,strs l,f,u,ca⟩ _ _,by simp only[renMu];omega,fun K hK=>?_⟩
  ·unfold j6;simp only[Bool.and_eq_true];exact⟨hx1,hx2,Nat.ble_eq_true_of_le e3,hx.2.2.2.1,Nat.ble_eq_true_of_le (by simp only[List.length_append];omega)⟩
  ·have hK:=out K hK;rw[hd,List.map_cons,List.flatten_cons,←List.append_assoc,←e2,←hA]at hK;exact hK
noncomputable def lkREN:Nat→Trans→Trans:=aR 122 (br 0 (szOf Tryz.prog 109) [1,2,3,4,5] renDec j6 renV' renJ renOut) (ad 9)
theorem lkREN_ok:aD Tryz.prog 0 lkREN 109:=by
 unfold lkREN;exact bo (aP 9 0 109) (by kernel_rfl) fun f st Q h=>aU (P:=Tryz.prog) (T:=RT1) (k:=0) (lim:=9) (n:=10) (g:=109) (p0:=122) (lk:=ad 9) mixed RT1_ok (aS 9 _ _) renMu ren_roundOk h
noncomputable def RT3:Tab:=⟨addP (addT (addT (addP noT 91 kQ) 133 rthT) 146 rintF) 147 boolF,addS noL 145 rcmayG,cn (aL 9) 109 0 lkREN⟩
theorem RT3_ok:TabOk3 Tryz.prog RT3:=⟨aN (aE (aE (aN aA n5) rth_ok) rint_ok) rbool_ok,cG aB rcmayG_ok,bc (ak 9) lkREN_ok⟩
theorem renc_tree(k g:List UInt8)(x:Value)(n:Nat)(cs:List V)(f u:Int)(ca:Bool)(R:V→Prop):runW Tryz.prog RT3 9 10 109 [.agg [.str k,.str g,.lst x n cs,.int .i64 f,.int .i64 u,.bool ca]] R=
  (
 bif cs.length.beq (n*1)&&(cs.all al&&cs.length.beq n)&&((List.map ac cs).length.ble 9223372036854775807&&(List.map ac cs).all au)then bif !(mayC
 (k) (g) f u&&(List.map ac cs).all patN)then R (.tuple [.str [],.int i64 4])else bif decide ((↑n:Int)>64)then R (.tuple [.str [],.int
 i64 4])else Fits 0 [.ptr 0 0,.str [],.int i64 0,.str [],.int i64 0] [.row [.str k,.str g,.lst x n cs,.int i64 f,.int
 i64 u,.bool ca] 57 6] [some (.ptr 0 0),some (.str []),some (.int i64 0),some (.str []),some (.int i64 0)] [.row [.str k,.str g,
 .lst x n cs,.int i64 f,.int i64 u,.bool ca] 57 6]∧bif j6 {c:={k:=k,g:=g,x:=x,n:=n,cs:=cs,f:=f,u:=u,ca:=ca},o:=[],i:=0}
 then ∀(j:Int),bif ((bN (k)).length+(putB 4 (g)).length).ble 9223372036854775807 then bif ((bN (k)++putB 4 (g)).length+(putB 48 ([]++nmsB
 cs)).length).ble 9223372036854775807 then bif okI f then bif ((bN (k)++putB 4 (g)++putB 48 ([]++nmsB cs)).length+(putB 2 (intL f)).length).ble
 9223372036854775807 then bif okI u then bif ((bN (k)++putB 4 (g)++putB 48 ([]++nmsB cs)++putB 2 (intL f)).length+(putB 2 (intL u)).length).ble
 9223372036854775807 then bif ((bN (k)++putB 4 (g)++putB 48 ([]++nmsB cs)++putB 2 (intL f)++putB 2 (intL u)).length+(putB 1 (gC ca)).length).ble
 9223372036854775807 then bif decide ((↑(putB 48 (bN (k)++putB 4 (g)++putB 48 ([]++nmsB cs)++putB 2 (intL f)++putB 2 (intL u)++putB 1 (gC ca))).length:
 Int)>512)then R (.tuple [.str [],.int i64 40])else R (.tuple [.str (putB 48 (bN (k)++putB 4 (g)++putB 48 ([]++nmsB cs)++putB 2 (intL f)++
 putB 2 (intL u)++putB 1 (gC ca))),.int i64 0])else False else False else False else False else False else False else False else False else False):=by kernel_rfl
theorem renc_sat(k g:List UInt8)(x:Value)(l:List (List UInt8))(f u:Int)(ca:Bool)(hl:l.length≤9223372036854775807)(ho:l.all au=true):
  FnSat Tryz.prog 109 [.agg [.str k,.str g,lstS x l,.int .i64 f,.int .i64 u,.bool ca]] [] (Is (.tuple [.str (encB k g l f u ca),.int .i64 (encE k g l f u ca)],[])):=by
 refine ax (lim:=9) (n:=10) mixed RT3_ok rfl rfl ?_;unfold lstS;rw[renc_tree];have e0:(strs l).length.beq (l.length*1)=true:=by rw[aF,Nat.mul_one];exact Nat.beq_refl _
 have e1:(strs l).length.beq l.length=true:=by rw[aF];exact Nat.beq_refl _
 have e2:l.length.ble 9223372036854775807=true:=Nat.ble_eq_true_of_le hl;have e3:nmsB (strs l)=(l.map du).flatten:=by unfold nmsB;rw[ao]
 simp only[e0,e1,e3,bZ,ao,e2,ho,List.nil_append,Bool.and_self,cond_true];refine ab (fun h=>?_) (fun h=>?_)
 ·have h:(mayC k g f u&&l.all patN)=false:=by rw[Bool.not_eq_true']at h;exact h
  have e:gw k g l f u=false:=by unfold gw;rw[h,Bool.false_and]
  unfold encB encE;rw[e];rfl
 have h:(mayC k g f u&&l.all patN)=true:=by rw[Bool.not_eq_false']at h;exact h
 have hm:=h;rw[Bool.and_eq_true]at hm;refine ab (fun h1=>?_) (fun h1=>?_)
 ·have h1:=of_decide_eq_true h1;have e:gw k g l f u=false:=by unfold gw;rw[h,Bool.true_and];exact decide_eq_false (by omega)
  unfold encB encE;rw[e];rfl
 have h1:=of_decide_eq_false h1;have e:gw k g l f u=true:=by unfold gw;rw[h,Bool.true_and];exact decide_eq_true (by omega)
 have hmay:=hm.1;unfold mayC at hmay;simp only[Bool.and_eq_true,decide_eq_true_eq]at hmay;have hk:k.length≤64:=by omega
 have hg:g.length=32:=by have:=beq_iff_eq.1 hmay.2.2.1;omega
 have hsp:(bN k).length≤72:=by
  have a:=bB 4 k;have b:=bB 48 (putB 4 k);unfold bN;split
  ·simp
  ·split
   ·simp
   ·omega
 have hF:(l.map du).flatten.length≤64*300:=by
  have:=lD (l.map du) 300 (fun s hs=>by
   obtain⟨t,ht,rfl⟩:=List.mem_map.1 hs;have:=jr (List.all_eq_true.1 hm.2 t ht);have b:=bB 130 t;unfold du;omega)
  rw[List.length_map]at this;have h64:l.length≤64:=by omega
  exact Nat.le_trans this (Nat.mul_le_mul_right _ h64)
 have hf8:=jv f;have hu8:=jv u;have hca:(gC ca).length≤1:=by cases ca<;>exact Nat.le_refl _
 have b1:=bB 4 g;have b2:=bB 2 (intL f);have b3:=bB 2 (intL u);have b4:=bB 1 (gC ca);have b5:=bB 48 (l.map du).flatten;have oi:∀z:Int,0≤z→z≤1099511627776→okI z=true:=fun z h1 h2=>by
  unfold okI;rw[decide_eq_true (by omega),decide_eq_true (by omega)];rfl
 have hin:(bN k++putB 4 g++putB 48 (l.map du).flatten++putB 2 (intL f)++putB 2 (intL u)++putB 1 (gC ca))=fc k g l f u ca:=by
  unfold fc;simp only[List.flatten_cons,List.flatten_nil,List.append_assoc,List.append_nil]
 rw[hin];refine⟨od ⟨k,g,x,l.length,strs l,f,u,ca⟩ [] 0,aa ?_ (fun j=>?_)⟩
 ·unfold j6 allP;simp only[Bool.and_eq_true,ao];exact⟨ip hl,hm.2,Nat.ble_eq_true_of_le (Nat.zero_le _),Nat.ble_eq_true_of_le (by omega),Nat.ble_eq_true_of_le (Nat.zero_le _)⟩
 ·refine aa (Nat.ble_eq_true_of_le (by omega)) (aa (Nat.ble_eq_true_of_le (by simp only[List.length_append];omega)) (aa (oi f hmay.2.2.2.1 hmay.2.2.2.2.1) (aa (Nat.ble_eq_true_of_le (by simp only[List.length_append];omega)) (aa (oi u hmay.2.2.2.2.2.1 hmay.2.2.2.2.2.2) (aa (Nat.ble_eq_true_of_le (by simp only[List.length_append];omega)) (aa (Nat.ble_eq_true_of_le (by simp only[List.length_append];omega)) ?_))))));unfold encB encE;rw[e];refine ab (fun h=>?_) (fun h=>?_)<;>(rw[h];rfl)
def rencG:List V→St→Option (List (Bool×(V×St)))
 |[.agg [.str k,.str g,p,.int .i64 f,.int .i64 u,.bool ca]],st=>match bJ st p with
  |some (b,l)=>some [(b&&(Nat.ble l.length 9223372036854775807&&l.all au),(.tuple [.str (encB k g l f u ca),.int .i64 (encE k g l f u ca)],st))]
  |none=>none
 |_,_=>none
theorem rencG_ok(args:List V)(s:St)(l:List (Bool×(V×St)))(o:V×St)(h:rencG args s=some l)(ho:az l=some o):FnSat Tryz.prog 109 args s (Is o):=by
 unfold rencG at h;split at h
 ·rename_i k g p f u ca;split at h
  ·rename_i b ls hv;cases h;obtain⟨hb,rfl⟩:=aJ ho;simp only[Bool.and_eq_true]at hb;obtain⟨rfl,h1,h2⟩:=hb;refine cE rfl fun B W0 w m rargs hr ha=>?_;obtain⟨a,r,q1,q2,rfl⟩:=aj ha;simp only[ai,Option.some.injEq]at q2;subst q2;obtain⟨y,hy⟩:=pt hr hv q1;exact⟨[.agg [.str k,.str g,lstS y ls,.int .i64 f,.int .i64 u,.bool ca]],by simp only[ai,hy],@renc_sat (Frz.of w) k g y ls f u ca (Nat.le_of_ble_eq_true h1) h2⟩
  ·cases h
 ·cases h
def catI:List IT→List UInt8
 |[]=>[]
 |x::r=>putB x.1 x.2++catI r
def gq(x:IT):Prop:=eZ x.1=true∧putE x.1 x.2=0
theorem get_cat{x:IT}(h:gq x)(s:List UInt8)(hl:(putB x.1 x.2++s).length≤1099511627776):aQ (putB x.1 x.2++s)=0∧bw (putB x.1 x.2++s)=x.1∧am (putB x.1 x.2++s)=x.2∧bP (putB x.1 x.2++s)=s:=by
 obtain⟨a,b,c,d⟩:=put_get (s:=s) h.1 h.2;obtain⟨e1,e2,e3,e4⟩:=get2_eq hl;rw[e1,e2,e3,e4];exact⟨a,b,c,d⟩
theorem put_ne{x:IT}(h:gq x)(s:List UInt8):putB x.1 x.2++s≠[]:=by
 intro e;have:=(List.append_eq_nil_iff.1 e).1;exact(put_none.2 this) h.2
theorem alF_catI:∀(L acc:List IT) (k:Nat),(∀x∈L,gq x)→(catI L).length≤k→(catI L).length≤1099511627776→acc.length+L.length≤64→alF k (catI L) acc=(acc++L,0)
 |[],acc,k,_,_,_,_=>by
  cases k with
  |zero=>simp[catI,alF]
  |succ k=>simp[catI,alF]
 |x::r,acc,k,hg,hk,hb,hn=>by
  have h1:=hg x (by simp);have hne:=put_ne h1 (catI r);simp only[catI]at hk hb ⊢;obtain⟨e1,e2,e3,e4⟩:=get_cat h1 (catI r) hb;cases k with
  |zero=>exact absurd (List.eq_nil_of_length_eq_zero (by omega)) hne
  |succ k=>
   have hlt:=fF hne;rw[e4]at hlt;rw[alF,if_neg hne,if_pos e1,e2,e3,e4];simp only[List.length_cons]at hn;rw[if_neg (by omega)];rw[alF_catI r (acc++[(x.1,x.2)]) k (fun y hy=>hg y (by simp[hy])) (by omega) (by omega) (by rw[List.length_append];simp;omega)];simp
theorem all_catI{L:List IT}(hg:∀x∈L,gq x)(hb:(catI L).length≤1099511627776)(hn:L.length≤64):allI (catI L)=L∧allE (catI L)=0:=by
 have:=alF_catI L [] (catI L).length hg (Nat.le_refl _) hb (by simpa using hn);unfold allI allE;rw[this];exact⟨rfl,rfl⟩
theorem get_good{s:List UInt8}(h:aQ s=0)(hl:s.length≤1099511627776):gq (bw s,am s)∧putB (bw s) (am s)++bP s=s:=by
 obtain⟨e1,e2,e3,e4⟩:=get2_eq hl;rw[e1]at h;obtain⟨a,b,c⟩:=get_put h;rw[e2,e3,e4];exact⟨⟨a,b⟩,c⟩
theorem qL(s:List UInt8):(am s).length≤s.length:=by
 unfold am;split
 ·simp only[List.length_take,List.length_drop];omega
 ·exact Nat.zero_le _
theorem alF_inv:∀(k:Nat) (s:List UInt8) (acc L:List IT),s.length≤k→s.length≤1099511627776→alF k s acc=(L,0)→∃M,L=acc++M∧s=catI M∧∀x∈M,gq x
 |0,s,acc,L,hk,_,h=>by
  have:s=[]:=List.eq_nil_of_length_eq_zero (by omega);rw[alF]at h;cases h;exact⟨[],by simp,this,by simp⟩
 |k+1,s,acc,L,hk,hb,h=>by
  rw[alF]at h;by_cases hs:s=[]
  ·rw[if_pos hs]at h;cases h;exact⟨[],by simp,hs,by simp⟩
  ·rw[if_neg hs]at h;by_cases h0:aQ s=0
   ·rw[if_pos h0]at h;by_cases ha:acc.length=64
    ·rw[if_pos ha]at h;simp at h
    ·rw[if_neg ha]at h;have hlt:=fF hs;obtain⟨M,m1,m2,m3⟩:=alF_inv k (bP s) _ L (by omega) (by omega) h;obtain⟨g1,g2⟩:=get_good h0 hb;refine⟨(bw s,am s)::M,by rw[m1];simp,?_,fun x hx=>?_⟩
     ·simp only[catI];rw[←m2,g2]
     ·rcases List.mem_cons.1 hx with rfl|hx
      ·exact g1
      ·exact m3 x hx
   ·rw[if_neg h0]at h;injection h with _ h
    exact absurd h h0
theorem sY{s:List UInt8}(hb:s.length≤1099511627776)(h:allE s=0):s=catI (allI s)∧∀x∈allI s,gq x:=by
 obtain⟨M,m1,m2,m3⟩:=alF_inv s.length s [] (allI s) (Nat.le_refl _) hb (by rw[all_eq s,h]);rw[List.nil_append]at m1;rw[m1];exact⟨m2,m3⟩
theorem only_put{t:Int}{x:List UInt8}(h:gq (t,x))(hl:(putB t x).length≤1099511627776):eh (putB t x) t=true∧am (putB t x)=x:=by
 have:=get_cat h [] (by simpa using hl);simp only[List.append_nil]at this;obtain⟨a,b,c,d⟩:=this;unfold eh;rw[a,b,c,d];exact⟨by simp,rfl⟩
theorem only_inv{s:List UInt8}{t:Int}(hb:s.length≤1099511627776)(h:eh s t=true):s=putB t (am s)∧gq (t,am s):=by
 unfold eh at h;simp only[Bool.and_eq_true]at h;have h1:aQ s=0:=by simpa using h.1
 have h2:bP s=[]:=by simpa using h.2.1
 have h3:bw s=t:=by simpa using h.2.2
 obtain⟨g1,g2⟩:=get_good h1 hb;rw[h2,List.append_nil,h3]at g2;rw[h3]at g1;exact⟨g2.symm,g1⟩
theorem sizeE_nn(s:List UInt8):0≤dq s:=by
 unfold dq bO
 (repeat' split)<;>simp
theorem getE2_nn(s:List UInt8):0≤aQ s:=by
 cases s with
 |nil=>simp[aQ]
 |cons t r=>
  have:=sizeE_nn r;simp only[aQ]
  (repeat' split)<;>omega
theorem alF_nn:∀(k:Nat) (s:List UInt8) (acc:List IT),0≤(alF k s acc).2
 |0,s,acc=>by rw[alF];exact Int.le_refl 0
 |k+1,s,acc=>by
  rw[alF];split
  ·exact Int.le_refl 0
  ·split
   ·split
    ·simp
    ·exact alF_nn k _ _
   ·exact getE2_nn s
theorem allE_nn(s:List UInt8):0≤allE s:=alF_nn _ _ _
theorem readE_nn(s:List UInt8):0≤aW s:=by
 unfold aW
 (repeat' split)<;>simp
theorem rbE_nn(s:List UInt8):0≤rbE s:=by
 unfold rbE;split<;>simp
theorem m2_le(x y:Int):x≤m2 x y∧y≤m2 x y:=by
 unfold m2;split<;>omega
theorem sj:m2 0 0=0:=by unfold m2;simp
theorem rp:eZ 48=true∧eZ 4=true∧eZ 130=true∧eZ 2=true∧eZ 1=true:=by decide
theorem fQ{t:Int}{x:List UInt8}(ht:eZ t=true)(h1:¬t%32=31)(h2:x.length≤65535):gq (t,x):=by
 refine⟨ht,?_⟩;unfold putE;rw[if_neg h1,if_neg (by simp only;omega)]
theorem l8:∀l:List (List UInt8),(l.map du).flatten=catI (l.map fun s=>((130:Int),s))
 |[]=>rfl
 |s::r=>by simp only[List.map_cons,List.flatten_cons,catI,l8 r];rfl
theorem qX:∀L:List IT,L.all (fun y=>y.1==130)=true→catI L=((L.map (·.2)).map du).flatten
 |[],_=>rfl
 |x::r,h=>by
  simp only[List.all_cons,Bool.and_eq_true]at h;have h1:x.1=130:=by simpa using h.1
  simp only[catI,List.map_cons,List.flatten_cons,qX r h.2,du,h1]
theorem jt{k g:List UInt8}{f u:Int}(h:mayC k g f u=true):k≠[]∧k.length≤64∧g.length=32∧0≤f∧f≤1099511627776∧0≤u∧u≤1099511627776:=by
 unfold mayC at h;simp only[Bool.and_eq_true,decide_eq_true_eq,beq_iff_eq]at h;refine⟨fun e=>by subst e;simp at h,by omega,by omega,by omega,by omega,by omega,by omega⟩
theorem spki_may{k:List UInt8}(h0:k≠[])(h1:k.length≤64):bN k=putB 48 (putB 4 k):=by
 unfold bN;rw[if_neg h0,if_neg (by omega)]
def sixI(k g:List UInt8)(l:List (List UInt8))(f u:Int)(ca:Bool):List IT:=[(48,putB 4 k),(4,g),(48,(l.map du).flatten),(2,intL f),(2,intL u),(1,gC ca)]
theorem qT{k g:List UInt8}{l:List (List UInt8)}{f u:Int}{ca:Bool}(h0:k≠[])(h1:k.length≤64):fc k g l f u ca=catI (sixI k g l f u ca):=by
 unfold fc sixI;rw[spki_may h0 h1];simp only[catI,List.flatten_cons,List.flatten_nil,List.append_nil]
theorem bool_back(ca:Bool):(gC ca==[255])=ca∧rbE (gC ca)=0:=by cases ca<;>exact⟨rfl,rfl⟩
theorem enc_ok{k g:List UInt8}{l:List (List UInt8)}{f u:Int}{ca:Bool}(h:encE k g l f u ca=0):gw k g l f u=true∧encB k g l f u ca=putB 48 (fc k g l f u ca)∧(encB k g l f u ca).length≤512:=by
 unfold encE at h;cases ho:gw k g l f u with
 |false=>rw[ho]at h;simp at h
 |true=>
  rw[ho,cond_true]at h;cases hd:decide (((putB 48 (fc k g l f u ca)).length:Int)>512)with
  |true=>rw[hd]at h;simp at h
  |false=>
   have:=of_decide_eq_false hd;refine⟨rfl,?_,?_⟩
   ·unfold encB;rw[ho,hd];rfl
   ·unfold encB;rw[ho,hd];simp only[cond_true,cond_false];omega
theorem kA{k g:List UInt8}{l:List (List UInt8)}{f u:Int}(h:gw k g l f u=true):mayC k g f u=true∧l.all patN=true∧l.length≤64:=by
 unfold gw at h;simp only[Bool.and_eq_true,decide_eq_true_eq]at h;exact⟨h.1.1,h.1.2,by omega⟩
theorem six_good{k g:List UInt8}{l:List (List UInt8)}{f u:Int}{ca:Bool}(h:gw k g l f u=true)(hb:(fc k g l f u ca).length≤65535):(∀x∈sixI k g l f u ca,gq x)∧(∀x∈l.map (fun s=>((130:Int),s)),gq x):=by
 obtain⟨h1,h2,h3⟩:=kA h;obtain⟨c1,c2,c3,c4,c5,c6,c7⟩:=jt h1;obtain⟨t1,t2,t3,t4,t5⟩:=rp;have p4:=bB 4 k;have hf8:=jv f;have hu8:=jv u;have hca:(gC ca).length≤1:=by cases ca<;>exact Nat.le_refl _
 have hN:(l.map du).flatten.length≤65535:=by
  have:=lD (l.map du) 300 (fun s hs=>by
   obtain⟨t,ht,rfl⟩:=List.mem_map.1 hs;have:=jr (List.all_eq_true.1 h2 t ht);have b:=bB 130 t;unfold du;omega)
  rw[List.length_map]at this;have:l.length*300≤64*300:=Nat.mul_le_mul_right _ h3;omega
 constructor
 ·intro x hx;simp only[sixI,List.mem_cons,List.not_mem_nil,or_false]at hx;rcases hx with rfl|rfl|rfl|rfl|rfl|rfl
  ·exact fQ t1 (by decide) (by omega)
  ·exact fQ t2 (by decide) (by omega)
  ·exact fQ t1 (by decide) hN
  ·exact fQ t4 (by decide) (by omega)
  ·exact fQ t4 (by decide) (by omega)
  ·exact fQ t5 (by decide) (by omega)
 ·intro x hx;obtain⟨s,hs,rfl⟩:=List.mem_map.1 hx;have:=jr (List.all_eq_true.1 h2 s hs);exact fQ t3 (by decide) (by omega)
theorem ld{t:Int}{x:List UInt8}(h:putE t x=0):x.length≤(putB t x).length:=by
 unfold putE at h;unfold putB;by_cases h1:t%32=31
 ·rw[if_pos h1]at h;simp at h
 ·rw[if_neg h1]at h ⊢;by_cases h2:x.length>65535
  ·rw[if_pos h2]at h;simp at h
  ·rw[if_neg h2];simp;omega
theorem enc_len{k g:List UInt8}{l:List (List UInt8)}{f u:Int}{ca:Bool}(h:encE k g l f u ca=0):(fc k g l f u ca).length≤512:=by
 obtain⟨h1,h2,h3⟩:=enc_ok h;obtain⟨m1,m2,m3⟩:=kA h1;rw[h2]at h3;by_cases hp:putE 48 (fc k g l f u ca)=0
 ·have:=ld hp;omega
 ·exfalso;have hx:(fc k g l f u ca).length>65535:=by
   unfold putE at hp;rw[if_neg (by decide)]at hp;by_cases h2:(fc k g l f u ca).length>65535
   ·exact h2
   ·rw[if_neg h2]at hp;exact absurd rfl hp
  obtain⟨c1,c2,c3,c4,c5,c6,c7⟩:=jt m1;have hsp:=spki_may c1 c2;have q1:=bB 4 k;have q2:=bB 48 (putB 4 k);have q3:=bB 4 g;have q4:=bB 2 (intL f);have q5:=bB 2 (intL u);have q6:=bB 1 (gC ca);have q7:=bB 48 (l.map du).flatten;have hf8:=jv f;have hu8:=jv u;have hca:(gC ca).length≤1:=by cases ca<;>exact Nat.le_refl _
  have:=lD (l.map du) 300 (fun s hs=>by
   obtain⟨t,ht,rfl⟩:=List.mem_map.1 hs;have:=jr (List.all_eq_true.1 m2 t ht);have b:=bB 130 t;unfold du;omega)
  rw[List.length_map]at this;have:l.length*300≤64*300:=Nat.mul_le_mul_right _ m3;unfold fc at hx;rw[hsp]at hx;simp only[List.flatten_cons,List.flatten_nil,List.length_append,List.length_nil]at hx;omega
theorem enc_dec{k g:List UInt8}{l:List (List UInt8)}{f u:Int}{ca:Bool}(h:encE k g l f u ca=0):decR (encB k g l f u ca)=some ⟨k,g,l,f,u,ca⟩:=by
 obtain⟨h1,h2,h3⟩:=enc_ok h;obtain⟨m1,m2,m3⟩:=kA h1;obtain⟨c1,c2,c3,c4,c5,c6,c7⟩:=jt m1;have hin:=enc_len h;obtain⟨g1,g2⟩:=six_good (ca:=ca) h1 (by omega);have hgE:gq (48,fc k g l f u ca):=fQ rp.1 (by decide) (by omega);rw[h2]at h3 ⊢;obtain⟨o1,o2⟩:=only_put hgE (by omega);have hcat:=qT (g:=g) (l:=l) (f:=f) (u:=u) (ca:=ca) c1 c2;obtain⟨a1,a2⟩:=all_catI g1 (by rw[←hcat];omega) (by simp[sixI]);have hk:gq (4,k):=fQ rp.2.1 (by decide) (by omega);obtain⟨k1,k2⟩:=only_put hk (by have:=bB 4 k;omega);have hnl:(l.map du).flatten.length≤512:=by
  have:(l.map du).flatten.length≤(fc k g l f u ca).length:=by
   have hg3:(l.map du).flatten.length≤(putB 48 (l.map du).flatten).length:=ld (g1 (48,(l.map du).flatten) (by simp[sixI])).2;unfold fc;simp only[List.flatten_cons,List.flatten_nil,List.length_append,List.length_nil];omega
  omega
 obtain⟨n1,n2⟩:=all_catI g2 (by rw[←l8];omega) (by rw[List.length_map];exact m3);obtain⟨r1,r2⟩:=read_int (n:=f) (by omega) (by omega);obtain⟨r3,r4⟩:=read_int (n:=u) (by omega) (by omega);obtain⟨b1,b2⟩:=bool_back ca;have hmap:(l.map fun s=>((130:Int),s)).map (·.2)=l:=by rw[List.map_map];simp[Function.comp_def]
 have hall:(l.map fun s=>((130:Int),s)).all (fun y=>y.1==130)=true:=by rw[List.all_eq_true];intro y hy;obtain⟨s,_,rfl⟩:=List.mem_map.1 hy;rfl
 unfold decR;rw[decide_eq_false (by omega),cond_false];unfold decC;rw[o1,o2,hcat,a1,a2];have e0:((0:Int)!=0)=false:=rfl;rw[e0,cond_true,cond_false];unfold sixI decT;simp only
 rw[k1,k2,l8,n1,n2,r1,r3,b2,sj,sj,sj,e0,hall,hmap,r2,r4,m1,m2,b1];rfl
theorem jV{α:Type}{b:Bool}{x y:Option α}{z:Option α}(h:(bif b then x else y)=z):(b=true∧x=z)∨(b=false∧y=z):=by
 cases b with
 |true=>exact .inl ⟨rfl,h⟩
 |false=>exact .inr ⟨rfl,h⟩
theorem dec_enc{s:List UInt8}{c:CD}(h:decR s=some c):encE c.k c.g c.l c.f c.u c.ca=0∧encB c.k c.g c.l c.f c.u c.ca=s∧(mayC c.k c.g c.f c.u&&c.l.all patN)=true∧s.length≤512∧c.l.length≤64:=by
 unfold decR at h;cases hl:decide ((s.length:Int)>512)with
 |true=>rw[hl]at h;cases h
 |false=>
 rw[hl,cond_false]at h;have hl:=of_decide_eq_false hl;have hs:s.length≤512:=by omega
 unfold decC at h;cases ho:eh s 48 with
 |false=>rw[ho]at h;cases h
 |true=>
 rw[ho,cond_true]at h;cases hE:(allE (am s)!=0)with
 |true=>rw[hE]at h;cases h
 |false=>
 rw[hE,cond_false]at h;have hE:allE (am s)=0:=by simpa using hE
 obtain⟨o1,o2⟩:=only_inv (by omega) ho;have hx:=qL s;obtain⟨i1,i2⟩:=sY (by omega) hE;unfold decT at h;split at h
 ·rename_i x0 x1 x2 x3 x4 x5 hI;rw[hI]at i1 i2;rcases jV h with⟨t,h⟩|⟨_,h⟩
  rotate_left
  ·cases h
  simp only[Bool.and_eq_true,beq_iff_eq]at t;rcases jV h with⟨hk,h⟩|⟨_,h⟩
  rotate_left
  ·cases h
  rcases jV h with⟨_,h⟩|⟨hm,h⟩
  ·cases h
  rcases jV h with⟨ha,h⟩|⟨_,h⟩
  rotate_left
  ·cases h
  rcases jV h with⟨hmay,h⟩|⟨_,h⟩
  rotate_left
  ·cases h
  injection h with h
  subst h;have hm:m2 (m2 (m2 (allE x2.2) (aW x3.2)) (aW x4.2)) (rbE x5.2)=0:=by simpa using hm
  have l1:=m2_le (m2 (m2 (allE x2.2) (aW x3.2)) (aW x4.2)) (rbE x5.2);have l2:=m2_le (m2 (allE x2.2) (aW x3.2)) (aW x4.2);have l3:=m2_le (allE x2.2) (aW x3.2);have n1:=allE_nn x2.2;have n2:=readE_nn x3.2;have n3:=readE_nn x4.2;have n4:=rbE_nn x5.2;have z1:allE x2.2=0:=by omega
  have z2:aW x3.2=0:=by omega
  have z3:aW x4.2=0:=by omega
  have z4:rbE x5.2=0:=by omega
  have hlen:(am s).length≤512:=by omega
  rw[i1]at hlen;have g0:=ld (i2 x0 (by simp)).2;have g2:=ld (i2 x2 (by simp)).2;simp only[catI,List.length_append]at hlen;obtain⟨k1,k2⟩:=only_inv (s:=x0.2) (by omega) hk;obtain⟨j1,j2⟩:=sY (s:=x2.2) (by omega) z1;rw[Bool.and_eq_true]at hmay;obtain⟨c1,c2,c3,c4,c5,c6,c7⟩:=jt hmay.1;have hca:gC (x5.2==[255])=x5.2:=by
   unfold rbE at z4;by_cases hq:x5.2=[255]∨x5.2=[0]
   ·rcases hq with hq|hq<;>rw[hq]<;>rfl
   ·rw[if_neg hq]at z4;simp at z4
  have hin:fc (am x0.2) x1.2 ((allI x2.2).map (·.2)) (aI x3.2) (aI x4.2) (x5.2==[255])=am s:=by
   rw[qT c1 c2,i1];unfold sixI;rw[←k1,←qX _ ha,←j1,qe z2,qe z3,hca];simp only[catI];rw[t.1,t.2.1,t.2.2.1,t.2.2.2.1,t.2.2.2.2.1,t.2.2.2.2.2]
  have hok:gw (am x0.2) x1.2 ((allI x2.2).map (·.2)) (aI x3.2) (aI x4.2)=true:=by
   unfold gw;rw[hmay.1,hmay.2,Bool.true_and];have:=fq x2.2;exact decide_eq_true (by rw[List.length_map];omega)
  have hlen2:decide (((putB 48 (am s)).length:Int)>512)=false:=by rw[←o1];exact decide_eq_false (by omega)
  refine⟨?_,?_,?_,hs,?_⟩
  ·unfold encE;rw[hok,hin,hlen2];rfl
  ·unfold encB;rw[hok,hin,hlen2];show putB 48 (am s)=s;exact o1.symm
  ·simp only[hmay.1,hmay.2];rfl
  ·simp only[List.length_map];exact fq x2.2
 ·cases h
noncomputable def RV0:Tab:=⟨noT,noL,aL 9⟩
theorem RV0_ok:TabOk3 Tryz.prog RV0:=⟨aA,aB,ak 9⟩
theorem rval_tree(x:Value)(n:Nat)(cs:List V)(i:Int)(R:V→Prop):runW Tryz.prog RV0 9 10 106 [.lst x n cs,.int .i64 i] R=
  (
 bif decide (i<(↑n:Int))then bif decide (0≤i)&&decide (i<(↑n:Int))then bif (i.toNat*2+1).blt cs.length then bif al (cs.getD (i.toNat*2+1) (.bool
 false))then R (.str (ac (cs.getD (i.toNat*2+1) (.bool false))))else False else False else False else R (.str [])):=by kernel_rfl
def isItV:List V→Bool
 |[]=>true
 |.int .u8 _::.str _::r=>isItV r
 |_=>false
theorem mY:∀L:List IT,isItV (aq L)=true
 |[]=>rfl
 |x::r=>mY r
theorem isItV_of:∀cs:List V,isItV cs=true→cs=aq (cV cs)
 |[],_=>rfl
 |.int .u8 t::.str s::r,h=>by
  have:=isItV_of r h;simp only[cV,aq];rw[←this]
theorem o0:∀cs:List V,isItV cs=true→cs.all hZ=true
 |[],_=>rfl
 |.int .u8 t::.str s::r,h=>by
  simp only[List.all_cons,hZ,Bool.true_and];exact o0 r h
def pQ(st:St)(v:V):Option (Bool×List IT):=match cH st 2 v with
 |some (b,(n,cs))=>some (b&&(isItV cs&&Nat.beq (cV cs).length n),cV cs)
 |none=>none
def lstI(x:Value)(L:List IT):V:=.lst x L.length (aq L)
theorem viewI_ok{Φ:Frz}{B:Nat}{W0 w:World}{m:List MB}{st:St}(hr:@Rel gl Φ B W0 m st w){v:V}{L:List IT}{x:Value}(hv:pQ st v=some (true,L))(hx:@real gl Φ m v=some x):
  @real gl (Frz.of w) [] (lstI x L)=some x:=by
 unfold pQ at hv;split at hv
 ·rename_i b n cs hc;simp only[Option.some.injEq,Prod.mk.injEq,Bool.and_eq_true]at hv;obtain⟨⟨rfl,h1,h2⟩,rfl⟩:=hv;have:=nO hr hc (o0 _ h1) hx (by omega);unfold lstI;rw[Nat.eq_of_beq_eq_true h2,←isItV_of _ h1];exact this
 ·cases hv
def vX(L:List IT)(i:Nat):List UInt8:=(L.getD i (0,[])).2
theorem rval_sat(x:Value)(L:List IT)(i:Int)(h0:0≤i)(hl:L.length≤9223372036854775807):FnSat Tryz.prog 106 [lstI x L,.int .i64 i] [] (Is (.str (vX L i.toNat),[])):=by
 refine ax (lim:=9) (n:=10) mixed RV0_ok rfl rfl ?_;unfold lstI;rw[rval_tree];rcases Nat.lt_or_ge i.toNat L.length with h|h
 ·obtain⟨c,r,hd⟩:∃c r,L.drop i.toNat=c::r:=by
   cases hd:L.drop i.toNat with
   |nil=>have:=congrArg List.length hd;simp at this;omega
   |cons c r=>exact⟨c,r,rfl⟩
  obtain⟨_,e2,e3⟩:=gy hd;rw[Nat.zero_add]at e2 e3;have e4:vX L i.toNat=c.2:=by
   unfold vX;rw[List.getD_eq_getElem?_getD,(bh hd).1];rfl
  have d0:decide (i<(L.length:Int))=true:=decide_eq_true (by omega);have d1:decide (0≤i)=true:=decide_eq_true h0;have d2:(i.toNat*2+1).blt (aq L).length=true:=Nat.ble_eq_true_of_le (by rw[dW];omega);simp only[d0,d1,d2,e2,e4,al,ac,cond_true,Bool.and_self]
 ·have d0:decide (i<(L.length:Int))=false:=decide_eq_false (by omega);have e4:vX L i.toNat=[]:=by
   unfold vX;rw[List.getD_eq_getElem?_getD,List.getElem?_eq_none h];rfl
  rw[d0,e4,cond_false]
def rvalLV(OK:V→St→Bool)(VX:V→Nat→St→List UInt8):List V→St→Option (Bool×V)
 |[p,.int .i64 i],st=>some (OK p st&&decide (0≤i),.str (VX p i.toNat st))
 |_,_=>none
def ivOK(p:V)(st:St):Bool:=match pQ st p with
 |some (b,L)=>b&&(Nat.ble L.length 9223372036854775807&&st.all fun b=>aC b.cs)
 |none=>false
def ivX(p:V)(i:Nat)(st:St):List UInt8:=match pQ st p with
 |some (_,L)=>vX L i
 |none=>[]
theorem rvalL_ok(args:List V)(s:St)(v:V)(h:rvalLV ivOK ivX args s=some (true,v)):v.flat=true∧(∀b∈s,aC b.cs=true)∧FnSat Tryz.prog 106 args s (fun u _=>u=v):=by
 unfold rvalLV at h;split at h
 ·rename_i p i;simp only[Option.some.injEq,Prod.mk.injEq,Bool.and_eq_true]at h;obtain⟨⟨hb,hi⟩,rfl⟩:=h;have hi:=of_decide_eq_true hi;unfold ivOK at hb;split at hb
  ·rename_i b L hv;simp only[Bool.and_eq_true]at hb;obtain⟨rfl,h1,h2⟩:=hb;have hX:ivX p i.toNat s=vX L i.toNat:=by unfold ivX;rw[hv]
   rw[hX];refine⟨rfl,fun b hb=>List.all_eq_true.1 h2 b hb,?_⟩;have:FnSat Tryz.prog 106 [p,.int .i64 i] s (Is (.str (vX L i.toNat),s)):=by
    refine cE rfl fun B W0 w m rargs hr ha=>?_;obtain⟨a,r,q1,q2,rfl⟩:=aj ha;have q3:=bL (Ψ:=Frz.of w) (m':=[]) _ _ rfl q2;exact⟨[lstI a L,.int .i64 i],@aH _ (Frz.of w) [] _ _ _ _ (viewI_ok hr hv q1) q3,@rval_sat (Frz.of w) a L i hi (Nat.le_of_ble_eq_true h1)⟩
   exact this.mono fun u st hq=>by cases hq;rfl
  ·cases hb
 ·cases h
def rdZ:Blk:=.row [.str [],.str [],.nilSlice,.int .i64 0,.int .i64 0,.bool false] 57 6
theorem rde_round0(s:List UInt8)(lc ds:List V)(nl n:Nat)(k g:List UInt8)(i:Int)(R:Exit→List (Option V)→St→Prop):ah Tryz.prog RV0 9 10 (ad 9) 70 4090 [0,2,3,7,12,14,15] [.str s,.ptr 0 0,.int .i64 0,.slice 1 0 nl false 0 0,.slice 2 0 n false 0 0,.ptr 3 0,.int .i64 i] [rdZ,.row lc 135 2,.row ds 135 2,.row [.str k,.str g,.nilSlice,.int .i64 0,.int .i64 0,.bool false] 57 6] R=
  (
 bif decide (i<(↑n:Int))then bif decide (0≤i)&&decide (i<(↑n:Int))then bif (0+i.toNat*2+1).blt ds.length then bif al (ds.getD (0+i.toNat*2+1)
 (.bool false))then R .normal [some (.str s),some (.ptr 0 0),some (.int i64 0),some (.slice 1 0 nl false 0 0),some (.slice 2 0 n false 0 0),some
 (.ptr 3 0),some (.int i64 (i64.wrap (i+1)))] [.row [.str [],.str [],.nilSlice,.int i64 0,.int i64 0,.bool false] 57 6,
 .row lc 135 2,.row ds 135 2,.row [.str k,.str g,.slice 5 0 1 false 0 0,.int i64 0,.int i64 0,.bool false] 57 6,.row [.str
 (ac (ds.getD (0+i.toNat*2+1) (.bool false)))] 9 1,.row [.str (ac (ds.getD (0+i.toNat*2+1) (.bool false)))] 9 1]else False else False else
 False else R (.exit 0) [some (.str s),some (.ptr 0 0),some (.int i64 0),some (.slice 1 0 nl false 0 0),some (.slice 2 0 n false 0 0),some (.ptr 3
 0),some (.int i64 i)] [.row [.str [],.str [],.nilSlice,.int i64 0,.int i64 0,.bool false] 57 6,.row lc 135 2,.row ds 135
 2,.row [.str k,.str g,.nilSlice,.int i64 0,.int i64 0,.bool false] 57 6]):=by kernel_rfl
theorem rde_round1(s:List UInt8)(lc ds o:List V)(nl n m:Nat)(k g:List UInt8)(i:Int)(R:Exit→List (Option V)→St→Prop):ah Tryz.prog RV0 9 10 (ad 9) 70 4090 [0,2,3,7,12,14,15] [.str s,.ptr 0 0,.int .i64 0,.slice 1 0 nl false 0 0,.slice 2 0 n false 0 0,.ptr 3 0,.int .i64 i] [rdZ,.row lc 135 2,.row ds 135 2,.row [.str k,.str g,.slice 4 0 m false 0 0,.int .i64 0,.int .i64 0,.bool false] 57 6,.row o 9 1] R=
  (
 bif decide (i<(↑n:Int))then bif decide (0≤i)&&decide (i<(↑n:Int))then bif (0+i.toNat*2+1).blt ds.length then bif al (ds.getD (0+i.toNat*2+1)
 (.bool false))then bif o.length.beq (m*1)then bif (m+1).ble 9223372036854775807&&((m+1)*16).ble 140737488355328 then R .normal [some (.str s),some
 (.ptr 0 0),some (.int i64 0),some (.slice 1 0 nl false 0 0),some (.slice 2 0 n false 0 0),some (.ptr 3 0),some (.int i64 (i64.wrap (i+
 1)))] [.row [.str [],.str [],.nilSlice,.int i64 0,.int i64 0,.bool false] 57 6,.row lc 135 2,.row ds 135 2,.row [.str k,.str
 g,.slice 6 0 (m+1) false 0 0,.int i64 0,.int i64 0,.bool false] 57 6,.dead,.row [.str (ac (ds.getD (0+i.toNat*2+1) (.bool
 false)))] 9 1,.row (o++[V.str (ac (ds.getD (0+i.toNat*2+1) (V.bool false)))]) 9 1]else False else False else False else False else False else R
 (.exit 0) [some (.str s),some (.ptr 0 0),some (.int i64 0),some (.slice 1 0 nl false 0 0),some (.slice 2 0 n false 0 0),some (.ptr 3 0),some
 (.int i64 i)] [.row [.str [],.str [],.nilSlice,.int i64 0,.int i64 0,.bool false] 57 6,.row lc 135 2,.row ds 135 2,.row
 [.str k,.str g,.slice 4 0 m false 0 0,.int i64 0,.int i64 0,.bool false] 57 6,.row o 9 1]):=by kernel_rfl
structure RDX where
 s:List UInt8
 lc:List V
 nl:Nat
 ds:List V
 n:Nat
 k:List UInt8
 g:List UInt8
 i:Nat
def rdxV(y:RDX):List V:=[.str y.s,.ptr 0 0,.int .i64 0,.slice 1 0 y.nl false 0 0,.slice 2 0 y.n false 0 0,.ptr 3 0,.int .i64 y.i]
def rdxC(k g:List UInt8)(p:V):Blk:=.row [.str k,.str g,p,.int .i64 0,.int .i64 0,.bool false] 57 6
def rdxJ(y:RDX):St:=rdZ::.row y.lc 135 2::.row y.ds 135 2::rdxC y.k y.g (deSl 4 y.i)::deRw y.ds y.i
noncomputable def iR(y:RDX):Bool:=aC y.lc&&(okLs y.n y.ds&&Nat.ble y.i y.n)
def rdxMu(y:RDX):Nat:=y.n-y.i
def rdxDec:List (Option V)→St→Option RDX
 |[some (.str s),some (.ptr a 0),some (.int .i64 0),some (.slice b 0 nl false 0 0),some (.slice c 0 n false 0 0),some (.ptr d 0),some (.int .i64 0)],st=>match st[b]?,st[c]?,st[d]? with
  |some (.row lc _ _),some (.row ds _ _),some (.row (.str k::.str g::_) _ _)=>some ⟨s,lc,nl,ds,n,k,g,0⟩
  |_,_,_=>none
 |_,_=>none
def inS(ds:List V):List V:=strs ((cV ds).map (·.2))
def rdxOutG(s:List UInt8)(lc:List V)(nl:Nat)(ds:List V)(n:Nat)(k g:List UInt8)(K:Exit→List V→St→Prop):Prop:=
 (n=0→∀j:Int,K (.exit 0) [.str s,.ptr 0 0,.int .i64 0,.slice 1 0 nl false 0 0,.slice 2 0 n false 0 0,.ptr 3 0,.int .i64 j] [rdZ,.row lc 135 2,.row ds 135 2,rdxC k g .nilSlice])∧
 (∀m,n=m+1→∀j:Int,K (.exit 0) [.str s,.ptr 0 0,.int .i64 0,.slice 1 0 nl false 0 0,.slice 2 0 n false 0 0,.ptr 3 0,.int .i64 j] [rdZ,.row lc 135 2,.row ds 135 2,rdxC k g (.slice 4 0 (m+1) false 0 0),.row (inS ds) 9 1])
def rdxOut:Asks RDX:=fun y K=>rdxOutG y.s y.lc y.nl y.ds y.n y.k y.g K
theorem rdx_fits0(s:List UInt8)(lc:List V)(nl:Nat)(ds:List V)(n:Nat)(k g:List UInt8)(j:Int)(hl:aC lc=true)(hd:aC ds=true):Fits 0 [.str s,.ptr 0 0,.int .i64 0,.slice 1 0 nl false 0 0,.slice 2 0 n false 0 0,.ptr 3 0,.int .i64 j] [rdZ,.row lc 135 2,.row ds 135 2,rdxC k g .nilSlice]
  [some (.str s),some (.ptr 0 0),some (.int .i64 0),some (.slice 1 0 nl false 0 0),some (.slice 2 0 n false 0 0),some (.ptr 3 0),some (.int .i64 j)] [rdZ,.row lc 135 2,.row ds 135 2,rdxC k g .nilSlice]:=
 ⟨[0,1,2,3],[.str s,.ptr 0 0,.int .i64 0,.slice 1 0 nl false 0 0,.slice 2 0 n false 0 0,.ptr 3 0,.int .i64 j],rfl,rfl,FitsM.of ⟨.inr ⟨_,.inl rfl,rfl⟩,.inr ⟨_,.inl (by simp only[renB,ar lc hl]),rfl⟩,.inr ⟨_,.inl (by simp only[renB,ar ds hd]),rfl⟩,.inr ⟨_,.inl rfl,rfl⟩,trivial⟩,by decide,fun i hi=>by omega⟩
theorem lU(s:List UInt8)(lc:List V)(nl:Nat)(ds:List V)(n:Nat)(k g:List UInt8)(j:Int)(hl:aC lc=true)(hd:aC ds=true)(o:List (List UInt8))(b m L:Nat)(hL:L=m)(hb4:4≤b){st:St}(h0:st[0]?=some rdZ)(h1:st[1]?=some (.row lc 135 2))(h2:st[2]?=some (.row ds 135 2))(h3:st[3]?=some (rdxC k g (.slice b 0 L false 0 0)))(hb:st[b]?=some (.row (strs o) 9 1)):
  Fits 0 [.str s,.ptr 0 0,.int .i64 0,.slice 1 0 nl false 0 0,.slice 2 0 n false 0 0,.ptr 3 0,.int .i64 j] [rdZ,.row lc 135 2,.row ds 135 2,rdxC k g (.slice 4 0 m false 0 0),.row (strs o) 9 1]
  [some (.str s),some (.ptr 0 0),some (.int .i64 0),some (.slice 1 0 nl false 0 0),some (.slice 2 0 n false 0 0),some (.ptr 3 0),some (.int .i64 j)] st:=by
 subst hL;refine⟨[0,1,2,3,b],[.str s,.ptr 0 0,.int .i64 0,.slice 1 0 nl false 0 0,.slice 2 0 n false 0 0,.ptr 3 0,.int .i64 j],rfl,rfl,FitsM.of ⟨.inr ⟨_,.inl rfl,h0⟩,.inr ⟨_,.inl (by simp only[renB,ar lc hl]),h1⟩,.inr ⟨_,.inl (by simp only[renB,ar ds hd]),h2⟩,.inr ⟨_,.inl rfl,h3⟩,.inr ⟨_,.inl (by simp only[renB,gc]),hb⟩,trivial⟩,?_,fun i hi=>by omega⟩;simp;omega
theorem rdx_roundOk(y:RDX)(hx:iR y=true):ah Tryz.prog RV0 9 10 (ad 9) 70 4090 [0,2,3,7,12,14,15] (rdxV y) (rdxJ y) (ay 0 iR rdxV rdxJ rdxMu rdxOut y):=by
 obtain⟨s,lc,nl,ds,n,k,g,i⟩:=y;unfold iR at hx;simp only[Bool.and_eq_true]at hx;have f1:aC lc=true:=hx.1;have hx2:okLs n ds=true:=hx.2.1;have p1:i≤n:=Nat.le_of_ble_eq_true hx.2.2;obtain⟨L,rfl,rfl,p2⟩:=qp hx2;have f2:=eM L;have nm:∀j,deNm (aq L) j=(L.take j).map (·.2):=fun j=>by unfold deNm;rw[cb]
 have nms:inS (aq L)=strs (L.map (·.2)):=by unfold inS;rw[cb]
 have rowN:∀{j c r},L.drop j=c::r→(L.take (j+1)).map (·.2)=(L.take j).map (·.2)++[c.2]:=fun{j c r} h=>by
  rw[List.take_add_one,(bh h).1,List.map_append];rfl
 have w1:i<L.length→i64.wrap ((i:Int)+1)=((i+1:Nat):Int):=fun h=>by rw[IntWalk.i64_in _ ⟨by omega,by omega⟩];omega
 have pre:i<L.length→iR ⟨s,lc,nl,aq L,L.length,k,g,i+1⟩=true:=fun h=>by
  unfold iR;simp only[Bool.and_eq_true];exact⟨f1,hx2,Nat.ble_eq_true_of_le h⟩
 cases i with
 |zero=>
  show ah Tryz.prog RV0 9 10 (ad 9) 70 4090 [0,2,3,7,12,14,15] [.str s,.ptr 0 0,.int .i64 0,.slice 1 0 nl false 0 0,.slice 2 0 L.length false 0 0,.ptr 3 0,.int .i64 ((0:Nat):Int)] [rdZ,.row lc 135 2,.row (aq L) 135 2,.row [.str k,.str g,.nilSlice,.int .i64 0,.int .i64 0,.bool false] 57 6] _;rw[rde_round0];cases L with
  |nil=>exact⟨_,_,fun K hK=>hK.1 rfl _,rdx_fits0 s lc nl [] 0 k g _ f1 rfl⟩
  |cons c r=>
   have e2:=(gy (L:=c::r) (i:=0) (c:=c) (r:=r) rfl).2;have d0:decide (((0:Nat):Int)<((c::r).length:Int))=true:=decide_eq_true (by simp);have d1:decide ((0:Int)≤((0:Nat):Int))=true:=rfl;have d2:(0+0*2+1).blt (aq (c::r)).length=true:=Nat.ble_eq_true_of_le (by simp[aq]);simp only[d0,d1,d2,e2.1,w1 (by simp),Int.toNat_natCast,al,ac,cond_true,Bool.and_self];refine⟨⟨s,lc,nl,aq (c::r),(c::r).length,k,g,0+1⟩,pre (by simp),?_,by simp[rdxMu],fun K hK=>hK⟩;show Fits 0 _ (rdZ::.row lc 135 2::.row (aq (c::r)) 135 2::rdxC k g (.slice 4 0 1 false 0 0)::deRw (aq (c::r)) 1) _ _;have e:deRw (aq (c::r)) 1=[.row (strs [c.2]) 9 1]:=by show[Blk.row (strs (deNm (aq (c::r)) 1)) 9 1]=_;rw[nm];rfl
   rw[e];exact lU s lc nl (aq (c::r)) _ k g _ f1 f2 [c.2] 5 1 1 rfl (by omega) rfl rfl rfl rfl rfl
 |succ j=>
  have eR:deRw (aq L) (j+1)=[.row (strs ((L.take (j+1)).map (·.2))) 9 1]:=by show[Blk.row (strs (deNm (aq L) (j+1))) 9 1]=_;rw[nm]
  have eJ:rdxJ ⟨s,lc,nl,aq L,L.length,k,g,j+1⟩=[rdZ,.row lc 135 2,.row (aq L) 135 2,.row [.str k,.str g,.slice 4 0 (j+1) false 0 0,.int .i64 0,.int .i64 0,.bool false] 57 6,.row (strs ((L.take (j+1)).map (·.2))) 9 1]:=by
   unfold rdxJ;simp only;rw[eR];rfl
  rw[eJ];show ah Tryz.prog RV0 9 10 (ad 9) 70 4090 [0,2,3,7,12,14,15] [.str s,.ptr 0 0,.int .i64 0,.slice 1 0 nl false 0 0,.slice 2 0 L.length false 0 0,.ptr 3 0,.int .i64 ((j+1:Nat):Int)] _ _;rw[rde_round1];cases hd:L.drop (j+1)with
  |nil=>
   have hi:=bR hd p1;rw[decide_eq_false (show ¬(((j+1:Nat):Int)<(L.length:Int)) by omega),cond_false];refine⟨_,_,fun K hK=>hK.2 j hi.symm ((j+1:Nat):Int),?_⟩;rw[nms,show L.map (·.2)=(L.take (j+1)).map (·.2) by rw[hi,List.take_length]];exact lU s lc nl (aq L) _ k g _ f1 f2 ((L.take (j+1)).map (·.2)) 4 (j+1) (j+1) rfl (by omega) rfl rfl rfl rfl rfl
  |cons c r=>
   have h3:=(bh hd).2.2;have e2:=(gy hd).2;have d0:decide (((j+1:Nat):Int)<(L.length:Int))=true:=decide_eq_true (by omega);have d1:decide ((0:Int)≤((j+1:Nat):Int))=true:=decide_eq_true (by omega);have d2:(0+(j+1)*2+1).blt (aq L).length=true:=Nat.ble_eq_true_of_le (by rw[dW];omega);have hlen:((L.take (j+1)).map (·.2)).length=j+1:=by rw[List.length_map,List.length_take];omega
   have d3:(strs ((L.take (j+1)).map (·.2))).length.beq ((j+1)*1)=true:=by rw[aF,hlen,Nat.mul_one,Nat.beq_refl]
   have d4:((j+1+1).ble 9223372036854775807&&((j+1+1)*16).ble 140737488355328)=true:=by rw[Nat.ble_eq_true_of_le (by omega),Nat.ble_eq_true_of_le (by omega)];rfl
   simp only[d0,d1,d2,d3,d4,e2.1,w1 h3,Int.toNat_natCast,al,ac,cond_true,Bool.and_self];refine⟨⟨s,lc,nl,aq L,L.length,k,g,j+1+1⟩,pre h3,?_,by simp only[rdxMu];omega,fun K hK=>hK⟩;show Fits 0 _ (rdZ::.row lc 135 2::.row (aq L) 135 2::rdxC k g (.slice 4 0 (j+1+1) false 0 0)::deRw (aq L) (j+1+1)) _ _;have e:deRw (aq L) (j+1+1)=[.row (strs ((L.take (j+1)).map (·.2)++[c.2])) 9 1]:=by show[Blk.row (strs (deNm (aq L) (j+1+1))) 9 1]=_;rw[nm,rowN hd]
   have cat:strs ((L.take (j+1)).map (·.2))++[V.str c.2]=strs ((L.take (j+1)).map (·.2)++[c.2]):=by unfold strs;rw[List.map_append];rfl
   rw[e,cat];exact lU s lc nl (aq L) _ k g _ f1 f2 _ 6 (j+1+1) (j+1+1) rfl (by omega) rfl rfl rfl rfl rfl
noncomputable def lkRDX:Nat→Trans→Trans:=fU 4090 (isSl 12) (br 0 (szOf Tryz.prog 70) [0,2,3,7,12,14,15] rdxDec iR rdxV rdxJ rdxOut) (ad 9)
theorem lkRDX_ok:aD Tryz.prog 0 lkRDX 70:=by
 unfold lkRDX;exact pa (aP 9 0 70) (by kernel_rfl) fun f st Q h=>aU (P:=Tryz.prog) (T:=RV0) (k:=0) (lim:=9) (n:=10) (g:=70) (p0:=4090) (lk:=ad 9) mixed RV0_ok (aS 9 _ _) rdxMu rdx_roundOk h
def rencGV(EOK:V→St→Bool)(EB:List UInt8→List UInt8→V→Int→Int→Bool→St→List UInt8)(EE:List UInt8→List UInt8→V→Int→Int→Bool→St→Int):List V→St→Option (List (Bool×(V×St)))
 |[.agg [.str k,.str g,p,.int .i64 f,.int .i64 u,.bool ca]],st=>some [(EOK p st,(.tuple [.str (EB k g p f u ca st),.int .i64 (EE k g p f u ca st)],st))]
 |_,_=>none
def ecOK(p:V)(st:St):Bool:=match bJ st p with
 |some (b,l)=>b&&(Nat.ble l.length 9223372036854775807&&l.all au)
 |none=>false
def ecB(k g:List UInt8)(p:V)(f u:Int)(ca:Bool)(st:St):List UInt8:=match bJ st p with
 |some (_,l)=>encB k g l f u ca
 |none=>[]
def ecE(k g:List UInt8)(p:V)(f u:Int)(ca:Bool)(st:St):Int:=match bJ st p with
 |some (_,l)=>encE k g l f u ca
 |none=>0
theorem rencGV_ok(args:List V)(s:St)(l:List (Bool×(V×St)))(o:V×St)(h:rencGV ecOK ecB ecE args s=some l)(ho:az l=some o):FnSat Tryz.prog 109 args s (Is o):=by
 unfold rencGV at h;split at h
 ·rename_i k g p f u ca;cases h;obtain⟨hk,rfl⟩:=aJ ho;unfold ecOK at hk;split at hk
  ·rename_i b ls hv;have e1:ecB k g p f u ca s=encB k g ls f u ca:=by unfold ecB;rw[hv]
   have e2:ecE k g p f u ca s=encE k g ls f u ca:=by unfold ecE;rw[hv]
   rw[e1,e2];exact rencG_ok [.agg [.str k,.str g,p,.int .i64 f,.int .i64 u,.bool ca]] s [(b&&(Nat.ble ls.length 9223372036854775807&&ls.all au),(.tuple [.str (encB k g ls f u ca),.int .i64 (encE k g ls f u ca)],s))] _ (by simp only[rencG,hv]) (by rw[hk];rfl)
  ·cases hk
 ·cases h
noncomputable def RF1(GOKv:V→St→Bool)(VX:V→Nat→St→List UInt8)(EOK:V→St→Bool)(EB:List UInt8→List UInt8→V→Int→Int→Bool→St→List UInt8)(EE:List UInt8→List UInt8→V→Int→Int→Bool→St→Int)(AE:List UInt8→Int)(AN:List UInt8→Nat)(AC:List UInt8→List V):Tab:=⟨addT (addT (addP (addP noT 107 qf) 108 jo) 104 rgetT) 105 (rallG AE AN AC),addS (addL noL 106 (rvalLV GOKv VX)) 109 (rencGV EOK EB EE),cn (aL 9) 70 0 lkRDX⟩
theorem RF1_ok:TabOk3 Tryz.prog (RF1 ivOK ivX ecOK ecB ecE allE allN allC):=⟨aE (aE (aN (aN aA rread_ok) rrdbool_ok) rget_ok) rallG_ok,cG (addL_ok aB rvalL_ok) rencGV_ok,bc (ak 9) lkRDX_ok⟩
noncomputable def zO_0(AC:List UInt8→List V)(s:List UInt8):=[Blk.ro false (av 2 (AC (am s)))]
noncomputable def zO_1(AN:List UInt8→Nat)(s:List UInt8):=V.slice 0 0 (AN (am s)) false 0 0
noncomputable def zO_2:=[V.str [],V.str [],V.nilSlice,V.int i64 0,V.int i64 0,V.bool false]
noncomputable def zO_3:=V.tuple [V.agg zO_2,V.int i64 4]
noncomputable def zO_5(VX:V→Nat→St→List UInt8)(AN:List UInt8→Nat)(AC:List UInt8→List V)(s:List UInt8):=am (VX (zO_1 AN s) 0 (zO_0 AC s))
noncomputable def zO_4(VX:V→Nat→St→List UInt8)(AN:List UInt8→Nat)(AC:List UInt8→List V)(s:List UInt8):=V.tuple [V.agg [V.str (zO_5 VX AN AC s),V.str (VX (zO_1 AN s) 1 (zO_0 AC s)),V.nilSlice,V.int i64 (aI (VX (zO_1 AN s) 3 (zO_0 AC s))),V.int i64 (aI (VX (zO_1 AN s) 4 (zO_0 AC s))),V.bool (VX (zO_1 AN s) 5 (zO_0 AC s)==[255])],V.int i64 0]
theorem rde_tree(GOKv:V→St→Bool)(VX:V→Nat→St→List UInt8)(EOK:V→St→Bool)(EB:List UInt8→List UInt8→V→Int→Int→Bool→St→List UInt8)(EE:List UInt8→List UInt8→V→Int→Int→Bool→St→Int)(AE:List UInt8→Int)(AN:List UInt8→Nat)(AC:List UInt8→List V)(s:List UInt8)(R:V→St→Prop):runM Tryz.prog (RF1 GOKv VX EOK EB EE AE AN AC) 9 10 70 [.str s] (fun u st=>R u (visF u st))=
 (
 bif decide ((↑s.length:Int)>512)then R (.tuple [.agg zO_2,.int i64 40]) [.ro true []]else bif au s then bif au (am s)&&(AN (am
 s)).beq 0 then bif aQ s !=0 then R zO_3 [.ro true []]else bif AE (am s)!=0 then R zO_3 [.ro true []]else bif GOKv .nilSlice []&&true then bif
 au (VX .nilSlice 0 [])then bif GOKv .nilSlice []&&true then bif au (VX .nilSlice 2 [])&&(AN (VX .nilSlice 2 [])).beq 0 then bif GOKv .nilSlice []
 &&true then bif GOKv .nilSlice []&&true then bif GOKv .nilSlice []&&true then bif GOKv .nilSlice []&&true then bif EOK .nilSlice []then bif EE (am
 (VX .nilSlice 0 [])) (VX .nilSlice 1 []) .nilSlice (aI (VX .nilSlice 3 [])) (aI (VX .nilSlice 4 [])) (VX .nilSlice 5 []==[255]) []!=0 then R zO_3
 [.ro true []]else bif !EB (am (VX .nilSlice 0 [])) (VX .nilSlice 1 []) .nilSlice (aI (VX .nilSlice 3 [])) (aI (VX .nilSlice 4 [])) (VX
 .nilSlice 5 []==[255]) []==s then R zO_3 [.ro true []]else R (.tuple [.agg [.str (am (VX .nilSlice 0 [])),.str (VX .nilSlice 1 []),
 .nilSlice,.int i64 (aI (VX .nilSlice 3 [])),.int i64 (aI (VX .nilSlice 4 [])),.bool (VX .nilSlice 5 []==[255])],.int
 i64 0]) [.ro true []]else False else False else False else False else False else bif au (VX .nilSlice 2 [])then bif GOKv .nilSlice []&&true
 then False else False else False else False else False else False else bif au (am s)then bif aQ s !=0 then R zO_3 [.ro true []]else bif AE (am
 s)!=0 then R zO_3 [.ro true []]else bif GOKv (zO_1 AN s) (zO_0 AC s)&&true then bif au (VX (zO_1 AN s) 0 (zO_0 AC s))then bif GOKv (zO_1 AN s) (zO_0
 AC s)&&true then bif au (VX (zO_1 AN s) 2 (zO_0 AC s))&&(AN (VX (zO_1 AN s) 2 (zO_0 AC s))).beq 0 then bif GOKv (zO_1 AN s) (zO_0 AC s)&&true then bif
 GOKv (zO_1 AN s) (zO_0 AC s)&&true then bif GOKv (zO_1 AN s) (zO_0 AC s)&&true then bif GOKv (zO_1 AN s) (zO_0 AC s)&&true then bif EOK .nilSlice []then
 bif EE (zO_5 VX AN AC s) (VX (zO_1 AN s) 1 (zO_0 AC s)) .nilSlice (aI (VX (zO_1 AN s) 3 (zO_0 AC s))) (aI (VX (zO_1 AN s) 4 (zO_0 AC s))) (VX (zO_1 AN s)
 5 (zO_0 AC s)==[255]) []!=0 then R zO_3 [.ro true []]else bif !EB (zO_5 VX AN AC s) (VX (zO_1 AN s) 1 (zO_0 AC s)) .nilSlice (aI (VX (zO_1 AN s) 3
 (zO_0 AC s))) (aI (VX (zO_1 AN s) 4 (zO_0 AC s))) (VX (zO_1 AN s) 5 (zO_0 AC s)==[255]) []==s then R zO_3 [.ro true []]else R (zO_4 VX AN AC s)
 [.ro true []]else False else False else False else False else False else bif au (VX (zO_1 AN s) 2 (zO_0 AC s))then bif GOKv (zO_1 AN s) (zO_0 AC s)&&
 true then Fits 0 [.str s,.ptr 0 0,.int i64 0,.slice 1 0 (AN (am s)) false 0 0,.slice 2 0 (AN (VX (zO_1 AN s) 2 (zO_0 AC s))) false 0 0,.ptr
 3 0,.int i64 0] [.row zO_2 57 6,.row (av 2 (AC (am s))) 135 2,.row (av 4 (AC (VX (zO_1 AN s) 2 (zO_0 AC s)))) 135 2,.row
 [.str (zO_5 VX AN AC s),.str (VX (zO_1 AN s) 1 (zO_0 AC s)),.nilSlice,.int i64 0,.int i64 0,.bool false] 57 6] [some (.str s),some
 (.ptr 0 0),some (.int i64 0),some (.slice 2 0 (AN (am s)) false 0 0),some (.slice 4 0 (AN (VX (zO_1 AN s) 2 (zO_0 AC s))) false 0 0),some
 (.ptr 5 0),some (.int i64 0)] [.row zO_2 57 6,.row [.int u8 (bw s),.str (am s)] 135 2,.row (av 2 (AC (am s))) 135
 2,.row [.int u8 (bw (VX (zO_1 AN s) 0 (zO_0 AC s))),.str (zO_5 VX AN AC s)] 135 2,.row (av 4 (AC (VX (zO_1 AN s) 2 (zO_0 AC s)))) 135
 2,.row [.str (zO_5 VX AN AC s),.str (VX (zO_1 AN s) 1 (zO_0 AC s)),.nilSlice,.int i64 0,.int i64 0,.bool false] 57 6]∧bif iR
 {s:=s,lc:=av 2 (AC (am s)),nl:=AN (am s),ds:=av 4 (AC (VX (zO_1 AN s) 2 (zO_0 AC s))),n:=AN (VX (zO_1 AN s) 2 (zO_0 AC s)),k:=am (VX (zO_1 AN s) 0 (zO_0 AC s)),g:=VX (zO_1 AN s) 1 (zO_0 AC s),i:=0}
 then(AN (VX (zO_1 AN s) 2 (zO_0 AC s))=0→∀(j:Int),bif GOKv (zO_1 AN s) (zO_0 AC s)&&true then bif GOKv (zO_1 AN s) (zO_0 AC s)&&true then bif GOKv
 (zO_1 AN s) (zO_0 AC s)&&true then bif EOK .nilSlice []then bif EE (zO_5 VX AN AC s) (VX (zO_1 AN s) 1 (zO_0 AC s)) .nilSlice (aI (VX (zO_1 AN s) 3 (zO_0
 AC s))) (aI (VX (zO_1 AN s) 4 (zO_0 AC s))) (VX (zO_1 AN s) 5 (zO_0 AC s)==[255]) []!=0 then R zO_3 [.ro true []]else bif !EB (zO_5 VX AN AC s) (VX
 (zO_1 AN s) 1 (zO_0 AC s)) .nilSlice (aI (VX (zO_1 AN s) 3 (zO_0 AC s))) (aI (VX (zO_1 AN s) 4 (zO_0 AC s))) (VX (zO_1 AN s) 5 (zO_0 AC s)==[255]) []==
 s then R zO_3 [.ro true []]else R (zO_4 VX AN AC s) [.ro true []]else False else False else False else False)∧∀(m:Nat),AN (VX (zO_1 AN s) 2 (zO_0
 AC s))=m+1→∀(j:Int),bif GOKv (zO_1 AN s) (zO_0 AC s)&&true then bif GOKv (zO_1 AN s) (zO_0 AC s)&&true then bif GOKv (zO_1 AN s) (zO_0 AC s)&&
 true then bif EOK (.slice 4 0 (m+1) false 0 0) [.row zO_2 57 6,.row (av 2 (AC (am s))) 135 2,.row (av 4 (AC (VX (zO_1 AN s) 2 (zO_0 AC
 s)))) 135 2,.row [.str (zO_5 VX AN AC s),.str (VX (zO_1 AN s) 1 (zO_0 AC s)),.slice 4 0 (m+1) false 0 0,.int i64 (aI (VX (zO_1 AN s) 3
 (zO_0 AC s))),.int i64 (aI (VX (zO_1 AN s) 4 (zO_0 AC s))),.bool (VX (zO_1 AN s) 5 (zO_0 AC s)==[255])] 57 6,.row (inS (av 4 (AC (VX
 (zO_1 AN s) 2 (zO_0 AC s))))) 9 1]then bif EE (zO_5 VX AN AC s) (VX (zO_1 AN s) 1 (zO_0 AC s)) (.slice 4 0 (m+1) false 0 0) (aI (VX (zO_1 AN s) 3 (zO_0 AC
 s))) (aI (VX (zO_1 AN s) 4 (zO_0 AC s))) (VX (zO_1 AN s) 5 (zO_0 AC s)==[255]) [.row zO_2 57 6,.row (av 2 (AC (am s))) 135 2,.row (av
 4 (AC (VX (zO_1 AN s) 2 (zO_0 AC s)))) 135 2,.row [.str (zO_5 VX AN AC s),.str (VX (zO_1 AN s) 1 (zO_0 AC s)),.slice 4 0 (m+1) false 0 0,.int
 i64 (aI (VX (zO_1 AN s) 3 (zO_0 AC s))),.int i64 (aI (VX (zO_1 AN s) 4 (zO_0 AC s))),.bool (VX (zO_1 AN s) 5 (zO_0 AC s)==[255])] 57
 6,.row (inS (av 4 (AC (VX (zO_1 AN s) 2 (zO_0 AC s))))) 9 1]!=0 then R zO_3 [.ro true []]else bif !EB (zO_5 VX AN AC s) (VX (zO_1 AN s) 1 (zO_0 AC
 s)) (.slice 4 0 (m+1) false 0 0) (aI (VX (zO_1 AN s) 3 (zO_0 AC s))) (aI (VX (zO_1 AN s) 4 (zO_0 AC s))) (VX (zO_1 AN s) 5 (zO_0 AC s)==[255])
 [.row zO_2 57 6,.row (av 2 (AC (am s))) 135 2,.row (av 4 (AC (VX (zO_1 AN s) 2 (zO_0 AC s)))) 135 2,.row [.str (zO_5 VX AN AC s),
 .str (VX (zO_1 AN s) 1 (zO_0 AC s)),.slice 4 0 (m+1) false 0 0,.int i64 (aI (VX (zO_1 AN s) 3 (zO_0 AC s))),.int i64 (aI (VX (zO_1
 AN s) 4 (zO_0 AC s))),.bool (VX (zO_1 AN s) 5 (zO_0 AC s)==[255])] 57 6,.row (inS (av 4 (AC (VX (zO_1 AN s) 2 (zO_0 AC s))))) 9 1]==s then R zO_3
 [.ro true []]else R (.tuple [.agg [.str (zO_5 VX AN AC s),.str (VX (zO_1 AN s) 1 (zO_0 AC s)),.slice 4 0 (m+1) false 0 0,.int i64 (aI
 (VX (zO_1 AN s) 3 (zO_0 AC s))),.int i64 (aI (VX (zO_1 AN s) 4 (zO_0 AC s))),.bool (VX (zO_1 AN s) 5 (zO_0 AC s)==[255])],.int i64 0])
 [.dead,.dead,.dead,.dead,.row (inS (av 4 (AC (VX (zO_1 AN s) 2 (zO_0 AC s))))) 9 1]else False else False else False else False else False
 else False else False else False else False else False else False else False):=by kernel_rfl
theorem alF_bad:∀(k:Nat) (s:List UInt8) (acc:List IT),(alF k s acc).2≠0→(alF k s acc).1=[]
 |0,s,acc,h=>by simp[alF]at h
 |k+1,s,acc,h=>by
  simp only[alF]at h ⊢;split at h
  ·simp at h
  ·rename_i hs;rw[if_neg hs];split at h
   ·rename_i h0;rw[if_pos h0];split at h
    ·rename_i ha;rw[if_pos ha]
    ·rename_i ha;rw[if_neg ha];exact alF_bad k _ _ h
   ·rename_i h0;rw[if_neg h0]
theorem all_none{s:List UInt8}(h:allE s≠0):allI s=[]:=alF_bad _ _ _ h
theorem mem_cat:∀{L:List IT},(∀x∈L,gq x)→∀y∈L,y.2.length≤(catI L).length
 |[],_,y,h=>by cases h
 |x::r,hg,y,h=>by
  have e:catI (x::r)=putB x.1 x.2++catI r:=rfl;rw[e,List.length_append];rcases List.mem_cons.1 h with rfl|h
  ·have:=ld (hg y (by simp)).2;omega
  ·have:=mem_cat (fun z hz=>hg z (by simp[hz])) y h;omega
theorem item_len{s:List UInt8}(hb:s.length≤1099511627776):∀y∈allI s,y.2.length≤s.length:=by
 intro y hy;by_cases h:allE s=0
 ·obtain⟨h1,h2⟩:=sY hb h;have:=mem_cat h2 y hy;rw[←h1]at this;exact this
 ·rw[all_none h]at hy;cases hy
theorem vX_len{s:List UInt8}(hb:s.length≤1099511627776)(i:Nat):(vX (allI s) i).length≤s.length:=by
 unfold vX;rw[List.getD_eq_getElem?_getD];cases h:(allI s)[i]? with
 |none=>simp
 |some y=>exact item_len hb y (List.mem_of_getElem? h)
def rdC(s:List UInt8):CD:=⟨am (vX (allI (am s)) 0),vX (allI (am s)) 1,(allI (vX (allI (am s)) 2)).map (·.2),aI (vX (allI (am s)) 3),aI (vX (allI (am s)) 4),vX (allI (am s)) 5==[255]⟩
theorem decR_rd{s:List UInt8}{c:CD}(h:decR s=some c):aQ s=0∧allE (am s)=0∧c=rdC s:=by
 unfold decR at h;cases hl:decide ((s.length:Int)>512)with
 |true=>rw[hl]at h;cases h
 |false=>
 rw[hl,cond_false]at h;unfold decC at h;cases ho:eh s 48 with
 |false=>rw[ho]at h;cases h
 |true=>
 rw[ho,cond_true]at h;unfold eh at ho;simp only[Bool.and_eq_true]at ho;have h0:aQ s=0:=beq_iff_eq.1 ho.1;cases ha:(allE (am s)!=0)with
 |true=>rw[ha]at h;cases h
 |false=>
 rw[ha,cond_false]at h;have ha:allE (am s)=0:=by simpa using ha
 refine⟨h0,ha,?_⟩;unfold rdC;unfold decT at h;split at h
 ·rename_i x0 x1 x2 x3 x4 x5 hL;rw[hL];rcases jV h with⟨_,h⟩|⟨_,h⟩
  ·rcases jV h with⟨_,h⟩|⟨_,h⟩
   ·rcases jV h with⟨_,h⟩|⟨_,h⟩
    ·cases h
    ·rcases jV h with⟨_,h⟩|⟨_,h⟩
     ·rcases jV h with⟨_,h⟩|⟨_,h⟩
      ·cases h;rfl
      ·cases h
     ·cases h
   ·cases h
  ·cases h
 ·cases h
theorem rdw_view{st:St}{b:Nat}{f:List (List UInt8)}{t:TypeId}{sz:Nat}(hb:st[b]?=some (.row (strs f) t sz)):bJ st (.slice b 0 f.length false 0 0)=some (true,f):=by
 unfold bJ;simp only[cH,hb,Nat.mul_one,List.drop_zero,Nat.zero_add];rw[List.take_of_length_le (by rw[aF];exact Nat.le_refl _),aF,bZ,ao,Nat.beq_refl,Nat.ble_eq_true_of_le (Nat.le_refl _)];rfl
theorem rde_all(s:List UInt8)(hk:au s=true):runM Tryz.prog (RF1 ivOK ivX ecOK ecB ecE allE allN allC) 9 10 70 [.str s] (fun u st=>deQ s u (visF u st)):=by
 refine cast (rde_tree ivOK ivX ecOK ecB ecE allE allN allC s (deQ s)).symm ?_;unfold zO_4 zO_5 zO_3 zO_2 zO_1 zO_0;have hb:=of_decide_eq_true hk;have zero:∀(e:Int) (st:St),e≠0→decR s=none→decE s=e→deQ s (.tuple [.agg [.str [],.str [],.nilSlice,.int .i64 0,.int .i64 0,.bool false],.int .i64 e]) st:=by
  intro e st he h1 h2;have e1:outD s=(.tuple [gV,.int .i64 e],[]):=by unfold outD;rw[h1,h2]
  refine⟨?_,fun h=>absurd (h2.symm.trans h) he⟩;rw[e1];exact⟨[],[.tuple [gV,.int .i64 e]],rfl,rfl,FitsM.of trivial,by simp,fun i hi=>by omega⟩
 refine ab (fun h5=>?_) (fun h5=>?_)
 ·exact zero 40 _ (by omega) (by unfold decR;rw[h5];rfl) (by unfold decE;rw[h5];rfl)
 have four:∀(st:St),decR s=none→deQ s (.tuple [.agg [.str [],.str [],.nilSlice,.int .i64 0,.int .i64 0,.bool false],.int .i64 4]) st:=fun st h=>by
  refine zero 4 st (by omega) h ?_;unfold decR at h;unfold decE;rw[h5,cond_false]at h ⊢;rw[h]
 have none_of:(aQ s≠0∨allE (am s)≠0)→decR s=none:=fun h=>by
  cases hd:decR s with
  |none=>rfl
  |some c=>
   obtain⟨h1,h2,_⟩:=decR_rd hd;rcases h with h|h
   ·exact absurd h1 h
   ·exact absurd h2 h
 have hx:(am s).length≤s.length:=qL s;have ox:au (am s)=true:=decide_eq_true (by omega);have ov:∀i,au (vX (allI (am s)) i)=true:=fun i=>decide_eq_true (by have:=vX_len (s:=am s) (by omega) i;omega);rw[hk,ox,cond_true,Bool.true_and,cond_true]
 -- what the document reads, and whether it is told
 have bad:∀(st:St),(encE (rdC s).k (rdC s).g (rdC s).l (rdC s).f (rdC s).u (rdC s).ca≠0∨encB (rdC s).k (rdC s).g (rdC s).l (rdC s).f (rdC s).u (rdC s).ca≠s)→deQ s (.tuple [.agg [.str [],.str [],.nilSlice,.int .i64 0,.int .i64 0,.bool false],.int .i64 4]) st:=fun st h=>by
  refine four st ?_;cases hd:decR s with
  |none=>rfl
  |some c=>
   obtain⟨_,_,rfl⟩:=decR_rd hd;obtain⟨e1,e2,_⟩:=dec_enc hd;rcases h with h|h
   ·exact absurd e1 h
   ·exact absurd e2 h
 have good:encE (rdC s).k (rdC s).g (rdC s).l (rdC s).f (rdC s).u (rdC s).ca=0→encB (rdC s).k (rdC s).g (rdC s).l (rdC s).f (rdC s).u (rdC s).ca=s→decR s=some (rdC s):=fun h1 h2=>by
  have:=enc_dec h1;rw[h2]at this;exact this
 have oke:∀(st:St),decR s=some (rdC s)→(rdC s).l=[]→(∃b:Nat,st[b]?=some (Blk.ro true []))→deQ s (.tuple [.agg [.str (rdC s).k,.str (rdC s).g,.nilSlice,.int .i64 (rdC s).f,.int .i64 (rdC s).u,.bool (rdC s).ca],.int .i64 0]) st:=fun st h1 h2 h3=>by
  have e1:outD s=(.tuple [.agg [.str (rdC s).k,.str (rdC s).g,.nilSlice,.int .i64 (rdC s).f,.int .i64 (rdC s).u,.bool (rdC s).ca],.int .i64 0],[]):=by unfold outD;rw[h1];simp only[h2]
  refine⟨?_,fun _ _=>h3⟩;rw[e1];exact⟨[],[.tuple [.agg [.str (rdC s).k,.str (rdC s).g,.nilSlice,.int .i64 (rdC s).f,.int .i64 (rdC s).u,.bool (rdC s).ca],.int .i64 0]],rfl,rfl,FitsM.of trivial,by simp,fun i hi=>by omega⟩
 have okn:∀(st:St) (b m:Nat),decR s=some (rdC s)→(rdC s).l.length=m+1→st[b]?=some (.row (strs (rdC s).l) 9 1)→deQ s (.tuple [.agg [.str (rdC s).k,.str (rdC s).g,.slice b 0 (m+1) false 0 0,.int .i64 (rdC s).f,.int .i64 (rdC s).u,.bool (rdC s).ca],.int .i64 0]) st:=fun st b m h1 h2 h3=>by
  cases hl:(rdC s).l with
  |nil=>rw[hl]at h2;cases h2
  |cons a r=>
   have e1:outD s=(.tuple [.agg [.str (rdC s).k,.str (rdC s).g,.slice 0 0 (a::r).length false 0 0,.int .i64 (rdC s).f,.int .i64 (rdC s).u,.bool (rdC s).ca],.int .i64 0],[.row (strs (a::r)) 9 1]):=by unfold outD;rw[h1];simp only[hl]
   refine⟨?_,fun _ h=>by rw[e1]at h;cases h⟩;rw[e1,←h2,hl];rw[hl]at h3;exact⟨[b],[.tuple [.agg [.str (rdC s).k,.str (rdC s).g,.slice b 0 (a::r).length false 0 0,.int .i64 (rdC s).f,.int .i64 (rdC s).u,.bool (rdC s).ca],.int .i64 0]],rfl,rfl,FitsM.of ⟨.inr ⟨_,.inl (by simp only[renB,gc]),h3⟩,trivial⟩,by simp,fun i hi=>by omega⟩
 have nil_gk:ivOK .nilSlice []=true:=rfl;have nil_ek:ecOK .nilSlice []=true:=rfl;have nil_eE:(rdC s).l=[]→ecE (rdC s).k (rdC s).g .nilSlice (rdC s).f (rdC s).u (rdC s).ca []=encE (rdC s).k (rdC s).g (rdC s).l (rdC s).f (rdC s).u (rdC s).ca:=fun h=>by rw[h];rfl
 have nil_eB:(rdC s).l=[]→ecB (rdC s).k (rdC s).g .nilSlice (rdC s).f (rdC s).u (rdC s).ca []=encB (rdC s).k (rdC s).g (rdC s).l (rdC s).f (rdC s).u (rdC s).ca:=fun h=>by rw[h];rfl
 -- where no name is told
 have nilEnd:(rdC s).l=[]→(bif ecE (am (vX (allI (am s)) 0)) (vX (allI (am s)) 1) .nilSlice (aI (vX (allI (am s)) 3)) (aI (vX (allI (am s)) 4)) (vX (allI (am s)) 5==[255]) []!=0 then deQ s (V.tuple [V.agg [V.str [],V.str [],V.nilSlice,V.int i64 0,V.int i64 0,V.bool false],V.int i64 4]) [Blk.ro true []]
   else bif !ecB (am (vX (allI (am s)) 0)) (vX (allI (am s)) 1) .nilSlice (aI (vX (allI (am s)) 3)) (aI (vX (allI (am s)) 4)) (vX (allI (am s)) 5==[255]) []==s then deQ s (V.tuple [V.agg [V.str [],V.str [],V.nilSlice,V.int i64 0,V.int i64 0,V.bool false],V.int i64 4]) [Blk.ro true []]
   else deQ s (V.tuple [V.agg [V.str (am (vX (allI (am s)) 0)),V.str (vX (allI (am s)) 1),V.nilSlice,V.int i64 (aI (vX (allI (am s)) 3)),V.int i64 (aI (vX (allI (am s)) 4)),V.bool (vX (allI (am s)) 5==[255])],V.int i64 0]) [Blk.ro true []]):=fun hl=>by
  refine ab (fun h=>bad _ (.inl ?_)) (fun h=>ab (fun h1=>bad _ (.inr ?_)) (fun h1=>oke _ (good ?_ ?_) hl ⟨0,rfl⟩))
  ·rw[←nil_eE hl];have h:(ecE (rdC s).k (rdC s).g .nilSlice (rdC s).f (rdC s).u (rdC s).ca []!=0)=true:=h;simpa using h
  ·rw[←nil_eB hl];have h1:(!ecB (rdC s).k (rdC s).g .nilSlice (rdC s).f (rdC s).u (rdC s).ca []==s)=true:=h1;simpa using h1
  ·rw[←nil_eE hl];have h:(ecE (rdC s).k (rdC s).g .nilSlice (rdC s).f (rdC s).u (rdC s).ca []!=0)=false:=h;simpa using h
  ·rw[←nil_eB hl];have h1:(!ecB (rdC s).k (rdC s).g .nilSlice (rdC s).f (rdC s).u (rdC s).ca []==s)=false:=h1;simpa using h1
 have names_nil:∀{y:List UInt8},(allN y).beq 0=true→allI y=[]:=fun h=>List.length_eq_zero_iff.1 (Nat.eq_of_beq_eq_true h);refine ab (fun hn=>?_) (fun hn=>?_)
 ·have hL:=names_nil hn;have vx:∀k,ivX .nilSlice k []=vX (allI (am s)) k:=fun k=>by rw[hL];rfl
  have e2:allI (vX (allI (am s)) 2)=[]:=by rw[hL];rfl
  have hl:(rdC s).l=[]:=by unfold rdC;simp only;rw[e2];rfl
  have hz:(allN (vX (allI (am s)) 2)).beq 0=true:=by unfold allN;rw[e2];rfl
  refine ab (fun h=>four _ (none_of (.inl (by simpa using h)))) (fun h=>ab (fun h2=>four _ (none_of (.inr (by simpa using h2)))) (fun h2=>?_));simp only[nil_gk,vx,ov,hz,nil_ek,Bool.and_self,cond_true];exact nilEnd hl
 ·have cs:∀k y,av k (allC y)=aq (allI y):=fun k y=>gI k _;have sm:=fq (am s);have view:pQ [Blk.ro false (aq (allI (am s)))] (V.slice 0 0 (allN (am s)) false 0 0)=some (true,allI (am s)):=by
   unfold pQ allN;simp only[cH,List.getElem?_cons_zero,List.drop_zero];rw[List.take_of_length_le (by rw[dW];exact Nat.le_refl _),mY,cb,Nat.beq_refl,Nat.ble_eq_true_of_le (by rw[dW];omega)];rfl
  have gk:ivOK (V.slice 0 0 (allN (am s)) false 0 0) [Blk.ro false (aq (allI (am s)))]=true:=by
   unfold ivOK;rw[view];show(true&&(Nat.ble (allI (am s)).length 9223372036854775807&&(aC (aq (allI (am s)))&&true)))=true;rw[eM,Nat.ble_eq_true_of_le (by omega)];rfl
  have vx:∀k,ivX (V.slice 0 0 (allN (am s)) false 0 0) k [Blk.ro false (aq (allI (am s)))]=vX (allI (am s)) k:=fun k=>by unfold ivX;rw[view]
  refine ab (fun h=>four _ (none_of (.inl (by simpa using h)))) (fun h=>ab (fun h2=>four _ (none_of (.inr (by simpa using h2)))) (fun h2=>?_));simp only[cs,gk,vx,ov,nil_ek,Bool.and_self,Bool.true_and,cond_true];refine ab (fun hz=>?_) (fun hz=>?_)
  ·have hl:(rdC s).l=[]:=by unfold rdC;simp only;rw[names_nil hz];rfl
   exact nilEnd hl
  ·have sm2:=fq (vX (allI (am s)) 2);refine⟨⟨[0,2,4,5],[.str s,.ptr 0 0,.int .i64 0,.slice 2 0 (allN (am s)) false 0 0,.slice 4 0 (allN (vX (allI (am s)) 2)) false 0 0,.ptr 5 0,.int .i64 0],rfl,rfl,FitsM.of ⟨.inr ⟨_,.inl rfl,rfl⟩,.inr ⟨_,.inl (by simp only[renB,ez]),rfl⟩,.inr ⟨_,.inl (by simp only[renB,ez]),rfl⟩,.inr ⟨_,.inl rfl,rfl⟩,trivial⟩,by decide,fun i hi=>by omega⟩,aa ?_ ⟨fun h0=>?_,fun m hm j=>?_⟩⟩
   ·unfold iR;simp only[Bool.and_eq_true];exact⟨eM _,okLs_mk sm2,Nat.ble_eq_true_of_le (Nat.zero_le _)⟩
   ·rw[h0]at hz;cases hz
   ·have nms:inS (aq (allI (vX (allI (am s)) 2)))=strs (rdC s).l:=by unfold inS;rw[cb];rfl
    have hlen:(rdC s).l.length=m+1:=by rw[←hm];show List.length (List.map _ _)=_;rw[List.length_map];rfl
    rw[nms];have okl:(rdC s).l.all au=true:=by
     rw[List.all_eq_true];intro z hz;obtain⟨y,hy,rfl⟩:=List.mem_map.1 hz;have h2:=vX_len (s:=am s) (by omega) 2;have:=item_len (s:=vX (allI (am s)) 2) (by omega) y hy;exact decide_eq_true (by omega)
    have views:∀(st:St),st[4]?=some (.row (strs (rdC s).l) 9 1)→bJ st (.slice 4 0 (m+1) false 0 0)=some (true,(rdC s).l):=fun st h4=>by
     rw[←hlen];exact rdw_view h4
    have ek:∀(st:St),st[4]?=some (.row (strs (rdC s).l) 9 1)→ecOK (.slice 4 0 (m+1) false 0 0) st=true:=fun st h4=>by
     unfold ecOK;rw[views st h4];show(true&&(Nat.ble (rdC s).l.length 9223372036854775807&&(rdC s).l.all au))=true;have:(rdC s).l.length≤64:=by rw[hlen,←hm];exact sm2
     rw[okl,Nat.ble_eq_true_of_le (by omega)];rfl
    have eE:∀(st:St),st[4]?=some (.row (strs (rdC s).l) 9 1)→ecE (rdC s).k (rdC s).g (.slice 4 0 (m+1) false 0 0) (rdC s).f (rdC s).u (rdC s).ca st=encE (rdC s).k (rdC s).g (rdC s).l (rdC s).f (rdC s).u (rdC s).ca:=fun st h4=>by
     unfold ecE;rw[views st h4]
    have eB:∀(st:St),st[4]?=some (.row (strs (rdC s).l) 9 1)→ecB (rdC s).k (rdC s).g (.slice 4 0 (m+1) false 0 0) (rdC s).f (rdC s).u (rdC s).ca st=encB (rdC s).k (rdC s).g (rdC s).l (rdC s).f (rdC s).u (rdC s).ca:=fun st h4=>by
     unfold ecB;rw[views st h4]
    refine aa (ek _ rfl) (ab (fun h=>bad _ (.inl ?_)) (fun h=>ab (fun h1=>bad _ (.inr ?_)) (fun h1=>okn _ 4 m (good ?_ ?_) hlen rfl)))
    ·have h:(ecE (rdC s).k (rdC s).g (.slice 4 0 (m+1) false 0 0) (rdC s).f (rdC s).u (rdC s).ca _ !=0)=true:=h;rw[eE _ rfl]at h;simpa using h
    ·have h1:(!ecB (rdC s).k (rdC s).g (.slice 4 0 (m+1) false 0 0) (rdC s).f (rdC s).u (rdC s).ca _==s)=true:=h1;rw[eB _ rfl]at h1;simpa using h1
    ·have h:(ecE (rdC s).k (rdC s).g (.slice 4 0 (m+1) false 0 0) (rdC s).f (rdC s).u (rdC s).ca _ !=0)=false:=h;rw[eE _ rfl]at h;simpa using h
    ·have h1:(!ecB (rdC s).k (rdC s).g (.slice 4 0 (m+1) false 0 0) (rdC s).f (rdC s).u (rdC s).ca _==s)=false:=h1;rw[eB _ rfl]at h1;simpa using h1
theorem decN_gen{g:FuncId}{s:List UInt8}(H:FnSat Tryz.prog g [.str s] [] (fun u st=>deQ s u (visF u st)))(o:V×St)(ho:az [(Nat.blt 512 s.length,(.tuple [gV,.int .i64 40],[])),(decE s !=0,(.tuple [gV,.int .i64 4],[])),(true,outN s)]=some o):FnSat Tryz.prog g [.str s] [] (Is o):=by
 have H1:FnSat Tryz.prog g [.str s] [] (Is (outD s)):=FnSat.fits (H.mono fun u st hq=>qP (qk s) hq.1);have big:Nat.blt 512 s.length=decide ((s.length:Int)>512):=by
  cases hq:decide ((s.length:Int)>512)with
  |true=>have:=of_decide_eq_true hq;exact Nat.ble_eq_true_of_le (by omega)
  |false=>
   have:=of_decide_eq_false hq;cases hb:Nat.blt 512 s.length with
   |false=>rfl
   |true=>have:=Nat.le_of_ble_eq_true hb;omega
 have none_e:∀e,decE s=e→e≠0→outD s=(.tuple [gV,.int .i64 e],[]):=fun e h he=>by
  cases hd:decR s with
  |none=>unfold outD;rw[hd,h]
  |some c=>exact absurd (h.symm.trans ((jb s).2 ⟨c,hd⟩)) he
 cases hb:Nat.blt 512 s.length with
 |true=>
  rw[hb]at ho;cases ho;have he:decE s=40:=by unfold decE;rw[←big,hb];rfl
  rw[←none_e 40 he (by omega)];exact H1
 |false=>
 rw[hb]at ho;cases he:(decE s !=0)with
 |true=>
  rw[he]at ho;cases ho;have h4:decE s=4:=by
   unfold decE at he ⊢;rw[←big,hb,cond_false]at he ⊢;cases hc:decC s with
   |none=>rfl
   |some _=>rw[hc]at he;cases he
  rw[←none_e 4 h4 (by omega)];exact H1
 |false=>
  rw[he]at ho;cases ho;have hE:decE s=0:=by simpa using he
  obtain⟨c,hc⟩:=(jb s).1 hE;have hdc:dCd s=c:=by unfold dCd;rw[hc];rfl
  cases hn:Nat.beq (dN s) 0 with
  |true=>
   have h0:dL s=[]:=List.eq_nil_of_length_eq_zero (Nat.eq_of_beq_eq_true hn);have hd:dN s=0:=Nat.eq_of_beq_eq_true hn;have hcl:c.l=[]:=by have:=h0;unfold dL at this;rw[hdc]at this;exact this
   have eo:outD s=(.tuple [.agg [.str (dK s),.str (dG s),.nilSlice,.int .i64 (dF s),.int .i64 (dU s),.bool (dCa s)],.int .i64 0],[]):=by
    unfold outD dK dG dF dU dCa;rw[hdc,hc];simp only[hcl]
   intro B W0 m w rargs ha hr;refine(H B W0 m w rargs ha hr).mono ?_;rintro e w' ⟨u,x,m1,s1,rfl,_,h2,h3,hq⟩;obtain⟨b,hb⟩:=hq.2 hE (by rw[eo]);obtain⟨e1,hole,hrel⟩:=visF_rel h3 hb;have hm:m=[]:=List.eq_nil_of_length_eq_zero hr.len;subst hm;obtain⟨σ,us,k1,k2,_⟩:=hq.1;rw[eo]at k2;simp only[renL,renV,Option.some.injEq]at k2;subst k2;simp only[List.map_cons,List.map_nil,List.cons.injEq,Option.some.injEq,and_true]at k1;subst k1;refine⟨(outN s).1,x,[e1],(outN s).2,rfl,fun i e hi=>by simp at hi,?_,by unfold outN;rw[h0];exact hrel,rfl⟩;unfold outN;rw[hd];refine kM (fun y hy=>?_) h2;simp only[real,Option.some.injEq]at hy;subst hy;simp[real,at?,hole]
  |false=>
   have hne:dL s≠[]:=fun e=>by unfold dN at hn;rw[e]at hn;cases hn
   obtain⟨a,r,har⟩:∃a r,c.l=a::r:=by
    cases hl:c.l with
    |nil=>exact absurd (by unfold dL;rw[hdc];exact hl) hne
    |cons a r=>exact⟨a,r,rfl⟩
   have eo:outD s=(.tuple [.agg [.str (dK s),.str (dG s),.slice 0 0 (dN s) false 0 0,.int .i64 (dF s),.int .i64 (dU s),.bool (dCa s)],.int .i64 0],[.row (strs (dL s)) 9 1]):=by
    unfold outD dN dK dG dF dU dCa dL;rw[hdc,hc];simp only[har]
   rw[eo]at H1;refine nL H1 fun B W0 w m x hr hx=>?_;refine⟨m,ro_rel hr,kM (fun y hy=>?_) hx⟩;obtain⟨e,cap,g1,g2,g3,rfl⟩:=bt hy;have hd:dN s≠0:=fun h0=>by rw[h0]at hn;cases hn
   simp only[Bool.false_eq_true,if_false,Nat.sub_zero]at g2;subst g2;have hc:(if e.cap=0 then 0 else 0)=0:=by split<;>rfl
   simp only[real,g1,if_neg hd,if_pos g3,hc,Nat.add_zero]
def rdecT:List V→Option (List (Bool×(V×St)))
 |[.str s]=>some [(au s&&Nat.blt 512 s.length,(.tuple [gV,.int .i64 40],[])),(au s&&decE s !=0,(.tuple [gV,.int .i64 4],[])),(au s,outN s)]
 |_=>none
theorem rdec_ok(args:List V)(l:List (Bool×(V×St)))(o:V×St)(h:rdecT args=some l)(ho:az l=some o):FnSat Tryz.prog 70 args [] (Is o):=by
 unfold rdecT at h;split at h
 ·rename_i s;cases h;cases hk:au s with
  |false=>rw[hk]at ho;simp[az]at ho
  |true=>
  rw[hk,Bool.true_and,Bool.true_and]at ho;exact decN_gen (dj mixed RF1_ok (rde_all s hk)) o ho
 ·cases h
noncomputable def RG0:Tab:=⟨addT (addP noT 91 kQ) 92 sumT,noL,aL 9⟩
theorem RG0_ok:TabOk3 Tryz.prog RG0:=⟨aE (aN aA n5) rsum_ok,aB,ak 9⟩
theorem rdg_tree(k:List UInt8)(R:V→Prop):runW Tryz.prog RG0 9 10 74 [.str k] R=
  (
 bif bN k==[]then R (.str [])else bif okL (bN k)then R (.str (sumF (bN k)))else False):=by kernel_rfl
theorem rdates_tree(k g:List UInt8)(x:Value)(n:Nat)(cs:List V)(f u:Int)(ca:Bool)(now:Int)(R:V→Prop):runW Tryz.prog RG0 9 10 37 [.agg [.str k,.str g,.lst x n cs,.int .i64 f,.int .i64 u,.bool ca],.int .i64 now] R=
  (
 bif decide (now≥f)then R (.bool (decide (now≤u)))else R (.bool false)):=by kernel_rfl
noncomputable def RG1:Tab:=⟨addT (addT (addT noT 71 rmatT) 72 rparT) 73 rlabsT,noL,aL 9⟩
theorem RG1_ok:TabOk3 Tryz.prog RG1:=⟨aE (aE (aE aA rmat_ok) rpar_ok) rlabs_ok,aB,ak 9⟩
noncomputable def zP_0(k g:List UInt8)(x:Value)(n:Nat)(cs:List V)(f u:Int)(ca:Bool):=[V.str k,V.str g,V.lst x n cs,V.int i64 f,V.int i64 u,V.bool ca]
noncomputable def zP_1(h:List UInt8)(i:Int):=[some (V.str h),some (V.ptr 0 0),some (V.bool false),some (V.int i64 (i64.wrap (i+1)))]
theorem rh_round(k g:List UInt8)(x:Value)(n:Nat)(cs:List V)(f u:Int)(ca:Bool)(h:List UInt8)(i:Int)(R:Exit→List (Option V)→St→Prop):ah Tryz.prog RG1 9 10 (ad 9) 35 26 [1,2,4,5] [.str h,.ptr 0 0,.bool false,.int .i64 i] [.row [.str k,.str g,.lst x n cs,.int .i64 f,.int .i64 u,.bool ca] 57 6] R=
 (
 bif decide (i<(↑n:Int))then bif decide (0≤i)&&decide (i<(↑n:Int))then bif (i.toNat*1).blt cs.length then bif al (cs.getD (i.toNat*1)
 (.bool false))then bif au (ac (cs.getD (i.toNat*1) (.bool false)))&&au h then bif !fJ (ac (cs.getD (i.toNat*1) (.bool false))) h then
 R .normal (zP_1 h i) [.row (zP_0 k g x n cs f u ca) 57 6]else bif true&&Nat.blt 0 (ac (cs.getD (i.toNat*1) (.bool false))).length then bif
 (↑((ac (cs.getD (i.toNat*1) (.bool false))).getD 0 0).toNat:Int)!=42 then R .ret [some (.str h),some (.ptr 0 0),some (.bool true),some
 (.int i64 i)] [.row (zP_0 k g x n cs f u ca) 57 6]else bif au h then bif au (bif parB h then cutR h else[])&&mayN (bif parB h then cutR h
 else[])then bif decide ((↑(lsN (bif parB h then cutR h else[]) []):Int)≥2)then R .ret [some (.str h),some (.ptr 0 0),some (.bool true),some
 (.int i64 i)] [.row (zP_0 k g x n cs f u ca) 57 6,.row (av 1 (lsC (bif parB h then cutR h else[]) [])) 9 1]else R .normal (zP_1 h i)
 [.row (zP_0 k g x n cs f u ca) 57 6,.row (av 1 (lsC (bif parB h then cutR h else[]) [])) 9 1]else bif au (bif parB h then cutR h else[])&&
 !mayN (bif parB h then cutR h else[])then R .normal (zP_1 h i) [.row (zP_0 k g x n cs f u ca) 57 6]else False else False else False else False else
 False else False else False else R (.exit 0) [some (.str h),some (.ptr 0 0),some (.bool false),some (.int i64 i)] [.row (zP_0 k g x n cs f
 u ca) 57 6]):=by kernel_rfl
theorem rdg_ok(args:List V)(v:V)(h:digP args=some v):FnSat Tryz.prog 74 args [] (Is (v,[])):=by
 unfold digP at h;split at h
 ·rename_i k;cases h;refine ax (lim:=9) (n:=10) mixed RG0_ok rfl rfl ?_;rw[rdg_tree];unfold digB;refine ab (fun h=>?_) (fun h=>?_)
  ·rw[h];rfl
  ·rw[h];have hk:okL (bN k)=true:=by
    refine decide_eq_true ?_;unfold bN;split
    ·simp
    ·split
     ·simp
     ·have h1:=bB 4 k;have h2:=bB 48 (putB 4 k);omega
   rw[hk];rfl
 ·cases h
theorem rdates_sat(k g:List UInt8)(x:Value)(n:Nat)(cs:List V)(f u:Int)(ca:Bool)(now:Int):
  FnSat Tryz.prog 37 [.agg [.str k,.str g,.lst x n cs,.int .i64 f,.int .i64 u,.bool ca],.int .i64 now] [] (Is (.bool (aV f u now),[])):=by
 refine ax (lim:=9) (n:=10) mixed RG0_ok rfl rfl ?_;rw[rdates_tree];unfold aV;show bif decide (f≤now)then _ else _
 cases decide (f≤now)<;>rfl
theorem rdatesG_ok(args:List V)(s:St)(l:List (Bool×(V×St)))(o:V×St)(h:mw args s=some l)(ho:az l=some o):FnSat Tryz.prog 37 args s (Is o):=by
 unfold mw at h;split at h
 ·rename_i k g p f u ca now;split at h
  ·rename_i b ls hv;cases h;obtain⟨rfl,rfl⟩:=aJ ho;refine cE rfl fun B W0 w m rargs hr ha=>?_;obtain⟨a,r,q1,q2,rfl⟩:=aj ha;obtain⟨y,hy⟩:=nD hr hv q1;have q3:=bL (Ψ:=Frz.of w) (m':=[]) _ _ rfl q2;exact⟨[.agg [.str k,.str g,lstS y ls,.int .i64 f,.int .i64 u,.bool ca],.int .i64 now],@aH _ (Frz.of w) [] _ _ _ _ hy q3,@rdates_sat (Frz.of w) k g y _ _ f u ca now⟩
  ·cases h
 ·cases h
theorem may_first{s:List UInt8}(h:mayN s=true):0<s.length∧((s.getD 0 0).toNat:Int)≠42:=by
 rw[mayN_all,Bool.and_eq_true,Bool.and_eq_true]at h;obtain⟨q,hq,_⟩:=oX s;have h1:=h.2.1;rw[hq,List.all_cons,Bool.and_eq_true]at h1;have h2:=h1.1;unfold bT at h2;rw[Bool.and_eq_true,Bool.and_eq_true,Bool.and_eq_true,Bool.and_eq_true]at h2;have h3:=of_decide_eq_true h2.1;have h4:=h2.2.2.2.2;unfold cutB at h3 h4;cases s with
 |nil=>simp[cutA]at h3
 |cons c r=>
  by_cases hc:c=46
  ·subst hc;simp[cutA]at h3
  ·refine⟨by simp,fun e=>?_⟩;have e:(c.toNat:Int)=42:=e;have e:c.toNat=42:=by omega
   rw[cutA,if_neg hc]at h4;unfold da at h4;rw[List.all_cons,Bool.and_eq_true]at h4;have h5:=h4.1;unfold dv at h5;rw[if_neg (by omega),if_neg (by omega)]at h5;cases h5
theorem pat_first{s:List UInt8}(h:patN s=true):0<s.length∧((((s.getD 0 0).toNat:Int)!=42)=!ec s):=by
 unfold patN at h;rw[rc]at h;cases hs:ec s with
 |true=>
  have h1:s.take 2=[42,46]:=by unfold ec at hs;exact eq_of_beq hs
  cases s with
  |nil=>simp at h1
  |cons c r=>
   have h2:c=42:=by
    have:=congrArg (fun l=>l.head?) h1;simpa using this
   subst h2;exact⟨by simp,rfl⟩
 |false=>
  rw[hs,cond_false]at h;obtain⟨h1,h2⟩:=may_first h;refine⟨h1,?_⟩;show(((s.getD 0 0).toNat:Int)!=42)=true;rw[bne_iff_ne];exact h2
structure RH where
 k:List UInt8
 g:List UInt8
 x:Value
 n:Nat
 cs:List V
 f:Int
 u:Int
 ca:Bool
 h:List UInt8
 i:Nat
def rhV(y:RH):List V:=[.str y.h,.ptr 0 0,.bool false,.int .i64 y.i]
def rhJ(y:RH):St:=[.row [.str y.k,.str y.g,.lst y.x y.n y.cs,.int .i64 y.f,.int .i64 y.u,.bool y.ca] 57 6]
def iG(cs:List V):Bool:=(cs.map ac).all au
def kZ(y:RH):Bool:=(okS y.n y.cs&&(iG y.cs&&au y.h))&&Nat.ble y.i y.n
def rhMu(y:RH):Nat:=y.n-y.i
def rO(h:List UInt8)(b:Bool)(n:Nat)(K:Exit→List V→St→Prop):Prop:=
 bif b then ∀i:Nat,K .ret [.str h,.ptr 0 0,.bool true,.int .i64 i] [.dead]else K (.exit 0) [.str h,.ptr 0 0,.bool false,.int .i64 n] [.dead]
def rhOut:Asks RH:=fun y K=>rO y.h (anyH (y.cs.drop y.i) y.h) y.n K
def rhDec:List (Option V)→St→Option RH
 |[some (.str h),some (.ptr 0 0),some (.bool false),some (.int .i64 0)],.row [.str k,.str g,.lst x n cs,.int .i64 f,.int .i64 u,.bool ca] _ _::_=>some ⟨k,g,x,n,cs,f,u,ca,h,0⟩
 |_,_=>none
theorem rh_fits(k g:List UInt8)(x:Value)(n:Nat)(cs:List V)(f u:Int)(ca b:Bool)(h:List UInt8)(i:Int)(r:St):Fits 0 [.str h,.ptr 0 0,.bool b,.int .i64 i] [.row [.str k,.str g,.lst x n cs,.int .i64 f,.int .i64 u,.bool ca] 57 6] [some (.str h),some (.ptr 0 0),some (.bool b),some (.int .i64 i)] (.row [.str k,.str g,.lst x n cs,.int .i64 f,.int .i64 u,.bool ca] 57 6::r):=
 ⟨[0],[.str h,.ptr 0 0,.bool b,.int .i64 i],rfl,rfl,FitsM.of ⟨.inr ⟨_,.inl rfl,rfl⟩,trivial⟩,by decide,fun i hi=>by omega⟩
theorem rh_out(b:Bool)(h:List UInt8)(i:Int)(c:Blk)(r:St):Fits 0 [.str h,.ptr 0 0,.bool b,.int .i64 i] [.dead] [some (.str h),some (.ptr 0 0),some (.bool b),some (.int .i64 i)] (c::r):=
 ⟨[0],[.str h,.ptr 0 0,.bool b,.int .i64 i],rfl,rfl,FitsM.of ⟨.inl rfl,trivial⟩,by decide,fun i hi=>by omega⟩
theorem rh_roundOk(y:RH)(hx:kZ y=true):ah Tryz.prog RG1 9 10 (ad 9) 35 26 [1,2,4,5] (rhV y) (rhJ y) (ay 0 kZ rhV rhJ rhMu rhOut y):=by
 obtain⟨k,g,x,n,cs,f,u,ca,h,i⟩:=y;unfold kZ at hx;have hx0:=hx;rw[Bool.and_eq_true,Bool.and_eq_true,Bool.and_eq_true]at hx;have p1:i≤n:=Nat.le_of_ble_eq_true hx.2;have hx1:okS n cs=true:=hx.1.1;have hx2:iG cs=true:=hx.1.2.1;have hx3:au h=true:=hx.1.2.2;obtain⟨l,rfl,rfl,p2,p3⟩:=c9 hx1;show ah Tryz.prog RG1 9 10 (ad 9) 35 26 [1,2,4,5] [.str h,.ptr 0 0,.bool false,.int .i64 i] [.row [.str k,.str g,.lst x l.length (strs l),.int .i64 f,.int .i64 u,.bool ca] 57 6] _;rw[rh_round];unfold zP_1 zP_0;have hl:l.all au=true:=by unfold iG at hx2;rw[ao]at hx2;exact hx2
 have ha:∀j,anyH ((strs l).drop j) h=(l.drop j).any fun s=>ed s h:=fun j=>by
  unfold anyH;rw[List.map_drop,ao]
 have out:∀K,rhOut ⟨k,g,x,l.length,strs l,f,u,ca,h,i⟩ K→rO h ((l.drop i).any fun s=>ed s h) l.length K:=fun K hK=>by
  have hK:rO h (anyH ((strs l).drop i) h) l.length K:=hK;rw[ha]at hK;exact hK
 cases hd:l.drop i with
 |nil=>
  have hi:=bR hd p1;rw[decide_eq_false (show ¬((i:Int)<(l.length:Int)) by omega),cond_false];refine⟨_,_,fun K hK=>?_,rh_out false h i _ _⟩;have hK:=out K hK;rw[hd]at hK;rw[hi];exact hK
 |cons c r=>
  obtain⟨e1,e2,e3⟩:=bh hd;obtain⟨e4,e5⟩:=gH hd;have q1:decide ((i:Int)<(l.length:Int))=true:=decide_eq_true (by omega);have q2:decide ((0:Int)≤(i:Int))=true:=decide_eq_true (by omega);have hcl:au c=true:=List.all_eq_true.1 hl c (List.mem_of_mem_drop (by rw[hd];exact List.mem_cons_self));rw[q1,q2];simp only[Int.toNat_natCast,e4,e5,al,ac,cond_true,Bool.and_true,Bool.true_and,hcl,hx3,show i64.wrap ((i:Int)+1)=((i+1:Nat):Int) by rw[IntWalk.i64_in _ ⟨by omega,by omega⟩];omega];have yes:ed c h=true→∀st:St,ay 0 kZ rhV rhJ rhMu rhOut ⟨k,g,x,l.length,strs l,f,u,ca,h,i⟩ .ret [some (.str h),some (.ptr 0 0),some (.bool true),some (.int .i64 i)] (.row [.str k,.str g,.lst x l.length (strs l),.int .i64 f,.int .i64 u,.bool ca] 57 6::st):=fun hc st=>by
   refine⟨_,_,fun K hK=>?_,rh_out true h i _ _⟩;have hK:=out K hK;rw[hd,List.any_cons,hc]at hK;exact hK i
  have no:ed c h=false→∀st:St,ay 0 kZ rhV rhJ rhMu rhOut ⟨k,g,x,l.length,strs l,f,u,ca,h,i⟩ .normal [some (.str h),some (.ptr 0 0),some (.bool false),some (.int .i64 ((i+1:Nat):Int))] (.row [.str k,.str g,.lst x l.length (strs l),.int .i64 f,.int .i64 u,.bool ca] 57 6::st):=fun hc st=>by
   refine⟨⟨k,g,x,l.length,strs l,f,u,ca,h,i+1⟩,?_,rh_fits k g x _ _ f u ca false h _ st,by simp only[rhMu];omega,fun K hK=>?_⟩
   ·unfold kZ;rw[Bool.and_eq_true,Bool.and_eq_true,Bool.and_eq_true];exact⟨hx.1,Nat.ble_eq_true_of_le (show i+1≤l.length by omega)⟩
   ·have hK:=out K hK;show rO h (anyH ((strs l).drop (i+1)) h) l.length K;rw[ha,e2];rw[hd,List.any_cons,hc,Bool.false_or]at hK;exact hK
  cases hm:fJ c h with
  |false=>exact no (by unfold ed;rw[hm];rfl) []
  |true=>
   have hm2:=hm;unfold fJ at hm2;rw[Bool.and_eq_true,Bool.and_eq_true]at hm2;obtain⟨f1,f2⟩:=pat_first hm2.1;rw[Bool.not_true,cond_false];refine aa (Nat.ble_eq_true_of_le f1) ?_;rw[f2];cases hs:ec c with
   |false=>exact yes (by unfold ed;rw[hm,hs];rfl) []
   |true=>
    rw[hs,cond_true,Bool.and_eq_true]at hm2;have hr:cutR h=cm c:=eq_of_beq hm2.2.2.2;have hpm:mayN (cm c)=true:=hm2.1;have hlm:au (cm c)=true:=ko hcl;rw[Bool.not_true,cond_false,hm2.2.2.1,cond_true,hr,hpm,hlm,Bool.and_self,cond_true];refine ab (fun hg=>?_) (fun hg=>?_)
    ·refine yes ?_ _;have:=of_decide_eq_true hg;unfold ed;rw[hm,hs,decide_eq_true (by omega:(lsN (cm c) []:Int)>1)];rfl
    ·refine no ?_ _;have:=of_decide_eq_false hg;unfold ed;rw[hm,hs,decide_eq_false (by omega:¬(lsN (cm c) []:Int)>1)];rfl
noncomputable def lkRH:Nat→Trans→Trans:=aR 26 (br 0 (szOf Tryz.prog 35) [1,2,4,5] rhDec kZ rhV rhJ rhOut) (ad 9)
theorem lkRH_ok:aD Tryz.prog 0 lkRH 35:=by
 unfold lkRH;exact bo (aP 9 0 35) (by kernel_rfl) fun f st Q h=>aU (P:=Tryz.prog) (T:=RG1) (k:=0) (lim:=9) (n:=10) (g:=35) (p0:=26) (lk:=ad 9) mixed RG1_ok (aS 9 _ _) rhMu rh_roundOk h
noncomputable def RG2:Tab:=⟨noT,noL,cn (aL 9) 35 0 lkRH⟩
theorem RG2_ok:TabOk3 Tryz.prog RG2:=⟨aA,aB,bc (ak 9) lkRH_ok⟩
theorem rhost_tree(k g:List UInt8)(x:Value)(n:Nat)(cs:List V)(f u:Int)(ca:Bool)(h:List UInt8)(R:V→Prop):runW Tryz.prog RG2 9 10 35 [.agg [.str k,.str g,.lst x n cs,.int .i64 f,.int .i64 u,.bool ca],.str h] R=
  (
 Fits 0 [.str h,.ptr 0 0,.bool false,.int i64 0] [.row [.str k,.str g,.lst x n cs,.int i64 f,.int i64 u,.bool ca] 57 6] [some
 (.str h),some (.ptr 0 0),some (.bool false),some (.int i64 0)] [.row [.str k,.str g,.lst x n cs,.int i64 f,.int i64 u,.bool
 ca] 57 6]∧bif kZ {k:=k,g:=g,x:=x,n:=n,cs:=cs,f:=f,u:=u,ca:=ca,h:=h,i:=0}then bif anyH cs h then ∀(i:Nat),R (.bool true)else R
 (.bool false)else False):=by kernel_rfl
theorem rhost_sat(k g:List UInt8)(x:Value)(l:List (List UInt8))(f u:Int)(ca:Bool)(h:List UInt8)(hl:l.length≤9223372036854775807)(hk:(l.all au&&au h)=true):
  FnSat Tryz.prog 35 [.agg [.str k,.str g,lstS x l,.int .i64 f,.int .i64 u,.bool ca],.str h] [] (Is (.bool (hasH l h),[])):=by
 refine ax (lim:=9) (n:=10) mixed RG2_ok rfl rfl ?_;unfold lstS;rw[rhost_tree];have ha:anyH (strs l) h=l.any fun s=>ed s h:=by unfold anyH;rw[ao]
 rw[ha];refine⟨rh_fits k g x _ _ f u ca false h 0 [],aa ?_ ?_⟩
 ·unfold kZ iG;rw[ip hl,ao,Bool.true_and,Bool.and_eq_true];exact⟨hk,Nat.ble_eq_true_of_le (Nat.zero_le _)⟩
 show bif l.any (fun s=>ed s h)then _ else _
 unfold hasH;cases l.any fun s=>ed s h with
 |false=>rfl
 |true=>intro _;rfl
def rhostG:List V→St→Option (List (Bool×(V×St)))
 |[.agg [.str k,.str g,p,.int .i64 f,.int .i64 u,.bool ca],.str h],st=>match bJ st p with
  |some (b,l)=>some [(b&&(Nat.ble l.length 9223372036854775807&&(l.all au&&au h)),(.bool (hasH l h),st))]
  |none=>none
 |_,_=>none
theorem rhostG_ok(args:List V)(s:St)(l:List (Bool×(V×St)))(o:V×St)(h:rhostG args s=some l)(ho:az l=some o):FnSat Tryz.prog 35 args s (Is o):=by
 unfold rhostG at h;split at h
 ·rename_i k g p f u ca hh;split at h
  ·rename_i b ls hv;cases h;obtain⟨hb,rfl⟩:=aJ ho;rw[Bool.and_eq_true,Bool.and_eq_true]at hb;obtain⟨rfl,h1,h2⟩:=hb;refine cE rfl fun B W0 w m rargs hr ha=>?_;obtain⟨a,r,q1,q2,rfl⟩:=aj ha;obtain⟨y,hy⟩:=nD hr hv q1;have q3:=bL (Ψ:=Frz.of w) (m':=[]) _ _ rfl q2;exact⟨[.agg [.str k,.str g,lstS y ls,.int .i64 f,.int .i64 u,.bool ca],.str hh],@aH _ (Frz.of w) [] _ _ _ _ hy q3,@rhost_sat (Frz.of w) k g y ls f u ca hh (Nat.le_of_ble_eq_true h1) h2⟩
  ·cases h
 ·cases h
noncomputable def RR0:Tab:=⟨addT noT 70 rdecT,noL,aL 5⟩
theorem RR0_ok:TabOk3 Tryz.prog RR0:=⟨aE aA rdec_ok,aB,ak 5⟩
def elR(cs:List V)(j:Nat):List UInt8:=ac (cs.getD j (V.bool false))
noncomputable def zQ_0(cs:List V):=[V.str ((dK (elR cs 0))),V.str ((dG (elR cs 0))),V.nos 0 (dN (elR cs 0)),V.int i64 (dF (elR cs 0)),V.int i64 (dU (elR cs 0)),V.bool (dCa (elR cs 0)),V.str ((dK (elR cs 1))),V.str ((dG (elR cs 1))),V.nos 4 (dN (elR cs 1)),V.int i64 (dF (elR cs 1)),V.int i64 (dU (elR cs 1)),V.bool (dCa (elR cs 1)),V.str ((dK (elR cs 2))),V.str ((dG (elR cs 2))),V.nos 8 (dN (elR cs 2)),V.int i64 (dF (elR cs 2)),V.int i64 (dU (elR cs 2)),V.bool (dCa (elR cs 2))]
noncomputable def zQ_1(cs:List V):=[Blk.ro true (strs (dL (elR cs 0))),Blk.dead,Blk.dead,Blk.dead,Blk.ro true (av 4 (strs (dL (elR cs 1)))),Blk.dead,Blk.dead,Blk.dead,Blk.ro true (av 8 (strs (dL (elR cs 2)))),Blk.dead,Blk.dead,Blk.dead,Blk.ro true (av 12 (strs (dL (elR cs 3)))),Blk.dead,Blk.dead,Blk.row [V.str ((dK (elR cs 0))),V.str ((dG (elR cs 0))),V.nos 0 (dN (elR cs 0)),V.int i64 (dF (elR cs 0)),V.int i64 (dU (elR cs 0)),V.bool (dCa (elR cs 0)),V.str ((dK (elR cs 1))),V.str ((dG (elR cs 1))),V.nos 4 (dN (elR cs 1)),V.int i64 (dF (elR cs 1)),V.int i64 (dU (elR cs 1)),V.bool (dCa (elR cs 1)),V.str ((dK (elR cs 2))),V.str ((dG (elR cs 2))),V.nos 8 (dN (elR cs 2)),V.int i64 (dF (elR cs 2)),V.int i64 (dU (elR cs 2)),V.bool (dCa (elR cs 2)),V.str ((dK (elR cs 3))),V.str ((dG (elR cs 3))),V.nos 12 (dN (elR cs 3)),V.int i64 (dF (elR cs 3)),V.int i64 (dU (elR cs 3)),V.bool (dCa (elR cs 3))] 57 6]
noncomputable def zQ_2(cs:List V):=[V.str ((dK (elR cs 0))),V.str ((dG (elR cs 0))),V.nos 0 (dN (elR cs 0)),V.int i64 (dF (elR cs 0)),V.int i64 (dU (elR cs 0)),V.bool (dCa (elR cs 0)),V.str ((dK (elR cs 1))),V.str ((dG (elR cs 1))),V.nos 4 (dN (elR cs 1)),V.int i64 (dF (elR cs 1)),V.int i64 (dU (elR cs 1)),V.bool (dCa (elR cs 1))]
noncomputable def zQ_3(cs:List V):=[V.str ((dK (elR cs 0))),V.str ((dG (elR cs 0))),V.nos 0 (dN (elR cs 0)),V.int i64 (dF (elR cs 0)),V.int i64 (dU (elR cs 0)),V.bool (dCa (elR cs 0))]
noncomputable def zQ_4(cs:List V):=[Blk.ro true (strs (dL (elR cs 0))),Blk.dead,Blk.dead,Blk.dead,Blk.ro true (av 4 (strs (dL (elR cs 1)))),Blk.dead,Blk.dead,Blk.dead,Blk.ro true (av 8 (strs (dL (elR cs 2)))),Blk.dead,Blk.dead,Blk.row (zQ_0 cs) 57 6,Blk.dead]
noncomputable def zQ_5(cs:List V):=[Blk.ro true (strs (dL (elR cs 0))),Blk.dead,Blk.dead,Blk.dead,Blk.ro true (av 4 (strs (dL (elR cs 1)))),Blk.dead,Blk.dead,Blk.row (zQ_2 cs) 57 6,Blk.dead]
theorem rchain_tree(x:Value)(n:Nat)(cs:List V)(R:V→St→Prop):runM Tryz.prog RR0 5 10 34 [.lst x n cs] (fun v st=>R v (visD v st))=
 (
 bif decide (0<(↑n:Int))then bif true&&decide (0<(↑n:Int))then bif Nat.blt 0 cs.length then bif al (cs.getD 0 (.bool false))then bif au (elR
 cs 0)&&Nat.blt 512 (elR cs 0).length then R .nilSlice [.dead]else bif au (elR cs 0)&&decE (elR cs 0)!=0 then R .nilSlice [.dead]else bif au
 (elR cs 0)then bif decide (1<(↑n:Int))then bif true&&decide (1<(↑n:Int))then bif Nat.blt 1 cs.length then bif al (cs.getD 1 (.bool false))then
 bif au (elR cs 1)&&Nat.blt 512 (elR cs 1).length then R (.slice 3 0 1 false 0 0) [.ro true (strs (dL (elR cs 0))),.dead,.dead,.row (zQ_3 cs)
 57 6,.dead]else bif au (elR cs 1)&&decE (elR cs 1)!=0 then R (.slice 3 0 1 false 0 0) [.ro true (strs (dL (elR cs 0))),.dead,.dead,
 .row (zQ_3 cs) 57 6,.dead]else bif au (elR cs 1)then bif decide (2<(↑n:Int))then bif true&&decide (2<(↑n:Int))then bif Nat.blt 2
 cs.length then bif al (cs.getD 2 (.bool false))then bif au (elR cs 2)&&Nat.blt 512 (elR cs 2).length then R (.slice 7 0 2 false 0 0) (zQ_5 cs)else
 bif au (elR cs 2)&&decE (elR cs 2)!=0 then R (.slice 7 0 2 false 0 0) (zQ_5 cs)else bif au (elR cs 2)then bif decide (3<(↑n:Int))then bif true
 &&decide (3<(↑n:Int))then bif Nat.blt 3 cs.length then bif al (cs.getD 3 (.bool false))then bif au (elR cs 3)&&Nat.blt 512 (elR cs 3).length
 then R (.slice 11 0 3 false 0 0) (zQ_4 cs)else bif au (elR cs 3)&&decE (elR cs 3)!=0 then R (.slice 11 0 3 false 0 0) (zQ_4 cs)else bif au (elR cs
 3)then bif decide (4<(↑n:Int))then R (.slice 15 0 4 false 0 0) (zQ_1 cs)else R (.slice 15 0 4 false 0 0) (zQ_1 cs)else False else False else False else
 False else R (.slice 11 0 3 false 0 0) [.ro true (strs (dL (elR cs 0))),.dead,.dead,.dead,.ro true (av 4 (strs (dL (elR cs 1)))),
 .dead,.dead,.dead,.ro true (av 8 (strs (dL (elR cs 2)))),.dead,.dead,.row (zQ_0 cs) 57 6]else False else False else False else
 False else R (.slice 7 0 2 false 0 0) [.ro true (strs (dL (elR cs 0))),.dead,.dead,.dead,.ro true (av 4 (strs (dL (elR cs 1)))),
 .dead,.dead,.row (zQ_2 cs) 57 6]else False else False else False else False else R (.slice 3 0 1 false 0 0) [.ro true (strs (dL (elR cs 0))),
 .dead,.dead,.row (zQ_3 cs) 57 6]else False else False else False else False else R .nilSlice []):=by kernel_rfl
def okLL(n:Nat)(cs:List V):Bool:=okS n cs&&iG cs
def rqO(l:List (List UInt8)):Nat→V×St
 |0=>(.nilSlice,[])
 |1=>(.slice 0 0 1 false 0 0,[.row (rdA (rdG l 0) 1 []) 57 6,.ro true (strs (dL (rdG l 0)))])
 |2=>(.slice 0 0 2 false 0 0,[.row (rdA (rdG l 0) 1 (rdA (rdG l 1) 2 [])) 57 6,.ro true (strs (dL (rdG l 0))),.ro true (strs (dL (rdG l 1)))])
 |3=>(.slice 0 0 3 false 0 0,[.row (rdA (rdG l 0) 1 (rdA (rdG l 1) 2 (rdA (rdG l 2) 3 []))) 57 6,.ro true (strs (dL (rdG l 0))),.ro true (strs (dL (rdG l 1))),.ro true (strs (dL (rdG l 2)))])
 |_=>(.slice 0 0 4 false 0 0,[.row (rdA (rdG l 0) 1 (rdA (rdG l 1) 2 (rdA (rdG l 2) 3 (rdA (rdG l 3) 4 [])))) 57 6,.ro true (strs (dL (rdG l 0))),.ro true (strs (dL (rdG l 1))),.ro true (strs (dL (rdG l 2))),.ro true (strs (dL (rdG l 3)))])
def rreadT:List V→Option (List (Bool×(V×St)))
 |[.lst _ n cs]=>some [(okLL n cs&&Nat.beq (rdN (cs.map ac)) 0,rqO (cs.map ac) 0),(okLL n cs&&Nat.beq (rdN (cs.map ac)) 1,rqO (cs.map ac) 1),(okLL n cs&&Nat.beq (rdN (cs.map ac)) 2,rqO (cs.map ac) 2),(okLL n cs&&Nat.beq (rdN (cs.map ac)) 3,rqO (cs.map ac) 3),(okLL n cs,rqO (cs.map ac) 4)]
 |_=>none
theorem oa(st:St):Fits 0 [V.nilSlice] [] [some V.nilSlice] st:=bn [.nilSlice] rfl _ rfl st
theorem n8(l:List (List UInt8))(st:St)(h0:st[0]?=some (.ro true (strs (dL (rdG l 0)))))(hr:st[3]?=some (.row (rdA (rdG l 0) 0 []) 57 6)):Fits 0 [(rqO l 1).1] (rqO l 1).2 [some (.slice 3 0 1 false 0 0)] st:=
 ⟨[3,0],[.slice 3 0 1 false 0 0],rfl,rfl,FitsM.of ⟨.inr ⟨.row (rdA (rdG l 0) 0 []) 57 6,.inl rfl,hr⟩,.inr ⟨.ro true (strs (dL (rdG l 0))),.inl (by simp only[renB,ar _ (aX _)]),h0⟩,trivial⟩,by simp,fun i hi=>by omega⟩
theorem n7(l:List (List UInt8))(st:St)(h0:st[0]?=some (.ro true (strs (dL (rdG l 0)))))(h1:st[4]?=some (.ro true (strs (dL (rdG l 1)))))(hr:st[7]?=some (.row (rdA (rdG l 0) 0 (rdA (rdG l 1) 4 [])) 57 6)):Fits 0 [(rqO l 2).1] (rqO l 2).2 [some (.slice 7 0 2 false 0 0)] st:=
 ⟨[7,0,4],[.slice 7 0 2 false 0 0],rfl,rfl,FitsM.of ⟨.inr ⟨.row (rdA (rdG l 0) 0 (rdA (rdG l 1) 4 [])) 57 6,.inl rfl,hr⟩,.inr ⟨.ro true (strs (dL (rdG l 0))),.inl (by simp only[renB,ar _ (aX _)]),h0⟩,.inr ⟨.ro true (strs (dL (rdG l 1))),.inl (by simp only[renB,ar _ (aX _)]),h1⟩,trivial⟩,by simp,fun i hi=>by omega⟩
theorem n6(l:List (List UInt8))(st:St)(h0:st[0]?=some (.ro true (strs (dL (rdG l 0)))))(h1:st[4]?=some (.ro true (strs (dL (rdG l 1)))))(h2:st[8]?=some (.ro true (strs (dL (rdG l 2)))))(hr:st[11]?=some (.row (rdA (rdG l 0) 0 (rdA (rdG l 1) 4 (rdA (rdG l 2) 8 []))) 57 6)):Fits 0 [(rqO l 3).1] (rqO l 3).2 [some (.slice 11 0 3 false 0 0)] st:=
 ⟨[11,0,4,8],[.slice 11 0 3 false 0 0],rfl,rfl,FitsM.of ⟨.inr ⟨.row (rdA (rdG l 0) 0 (rdA (rdG l 1) 4 (rdA (rdG l 2) 8 []))) 57 6,.inl rfl,hr⟩,.inr ⟨.ro true (strs (dL (rdG l 0))),.inl (by simp only[renB,ar _ (aX _)]),h0⟩,.inr ⟨.ro true (strs (dL (rdG l 1))),.inl (by simp only[renB,ar _ (aX _)]),h1⟩,.inr ⟨.ro true (strs (dL (rdG l 2))),.inl (by simp only[renB,ar _ (aX _)]),h2⟩,trivial⟩,by simp,fun i hi=>by omega⟩
theorem rq_fits4(l:List (List UInt8))(st:St)(h0:st[0]?=some (.ro true (strs (dL (rdG l 0)))))(h1:st[4]?=some (.ro true (strs (dL (rdG l 1)))))(h2:st[8]?=some (.ro true (strs (dL (rdG l 2)))))(h3:st[12]?=some (.ro true (strs (dL (rdG l 3)))))(hr:st[15]?=some (.row (rdA (rdG l 0) 0 (rdA (rdG l 1) 4 (rdA (rdG l 2) 8 (rdA (rdG l 3) 12 [])))) 57 6)):Fits 0 [(rqO l 4).1] (rqO l 4).2 [some (.slice 15 0 4 false 0 0)] st:=
 ⟨[15,0,4,8,12],[.slice 15 0 4 false 0 0],rfl,rfl,FitsM.of ⟨.inr ⟨.row (rdA (rdG l 0) 0 (rdA (rdG l 1) 4 (rdA (rdG l 2) 8 (rdA (rdG l 3) 12 [])))) 57 6,.inl rfl,hr⟩,.inr ⟨.ro true (strs (dL (rdG l 0))),.inl (by simp only[renB,ar _ (aX _)]),h0⟩,.inr ⟨.ro true (strs (dL (rdG l 1))),.inl (by simp only[renB,ar _ (aX _)]),h1⟩,.inr ⟨.ro true (strs (dL (rdG l 2))),.inl (by simp only[renB,ar _ (aX _)]),h2⟩,.inr ⟨.ro true (strs (dL (rdG l 3))),.inl (by simp only[renB,ar _ (aX _)]),h3⟩,trivial⟩,by simp,fun i hi=>by omega⟩
theorem rreadT_ok(args:List V)(L:List (Bool×(V×St)))(o:V×St)(h:rreadT args=some L)(ho:az L=some o):FnSat Tryz.prog 34 args [] (Is o):=by
 unfold rreadT at h;split at h
 ·rename_i x n cs;cases h;cases hk:okLL n cs with
  |false=>rw[hk]at ho;simp[az]at ho
  |true=>
  rw[hk]at ho;simp only[Bool.true_and]at ho;unfold okLL at hk;rw[Bool.and_eq_true]at hk;have hal:=hk.2;have hk:=hk.1;obtain⟨l,rfl,rfl,p2,p3⟩:=c9 hk;rw[ao]at ho;have fin:∀j,rdN l=j→o=rqO l j:=by
   intro j hj;have h4:=(ci l).1;rw[hj]at ho h4
   match j,h4,ho with
   |0,_,ho=>exact(Option.some.inj ho).symm
   |1,_,ho=>exact(Option.some.inj ho).symm
   |2,_,ho=>exact(Option.some.inj ho).symm
   |3,_,ho=>exact(Option.some.inj ho).symm
   |4,_,ho=>exact(Option.some.inj ho).symm
  refine visN_ok (lim:=5) (n:=10) mixed RR0_ok ?_;unfold iG at hal;rw[ao]at hal;refine cast (rchain_tree x l.length (strs l) (fun u st=>Fits 0 [o.1] o.2 [some u] st)).symm ?_;unfold zQ_5 zQ_4 zQ_3 zQ_2 zQ_1 zQ_0;have gt:∀j,j<l.length→(strs l).getD j (.bool false)=.str (rdG l j):=fun j hj=>by
   rw[List.getD_eq_getElem?_getD];unfold strs rdG;rw[List.getElem?_map,List.getD_eq_getElem?_getD,List.getElem?_eq_getElem hj];rfl
  have L1:∀j,j<l.length→Nat.blt j (strs l).length=true:=fun j hj=>Nat.ble_eq_true_of_le (by rw[aF];omega);have S:∀j,j<l.length→al ((strs l).getD j (.bool false))=true:=fun j hj=>by rw[gt j hj];rfl
  have E:∀j,j<l.length→elR (strs l) j=rdG l j:=fun j hj=>by unfold elR;rw[gt j hj];rfl
  have D:∀j:Nat,j<l.length→(true&&decide ((j:Int)<(l.length:Int)))=true:=fun j hj=>by rw[Bool.true_and];exact decide_eq_true (by omega)
  have O:∀j,j<l.length→au (rdG l j)=true:=fun j hj=>by
   unfold rdG;rw[List.getD_eq_getElem?_getD,List.getElem?_eq_getElem hj];exact List.all_eq_true.1 hal _ (List.getElem_mem hj)
  have lt:∀j:Nat,decide ((j:Int)<(l.length:Int))=true→j<l.length:=fun j hj=>by have:=of_decide_eq_true hj;omega
  have ge:∀j:Nat,decide ((j:Int)<(l.length:Int))=false→l.length≤j:=fun j hj=>by have:=of_decide_eq_false hj;omega
  have A:∀b:Bool,(true&&b)=b:=fun b=>rfl;simp only[fh];refine ab (fun d0=>?_) (fun d0=>?_)
  rotate_left
  ·have q:=ge 0 d0;have cnt:rdN l=0:=bW (by omega) (fun i hi=>by omega) (.inl (by omega));have ho:=fin 0 cnt;subst ho;exact oa _
  have a0:=lt 0 d0;have E0:=E 0 a0;refine aa (D 0 a0) (aa (L1 0 a0) (aa (S 0 a0) ?_));have O0:=O 0 a0;simp only[E0,O0];have stop0:decE (rdG l 0)≠0→o=rqO l 0:=fun hb=>fin 0 (bW (by omega) (fun i hi=>by omega) (.inr hb));refine ab (fun b0=>by have ho:=stop0 (fv ((A _).symm.trans b0));subst ho;exact oa _) (fun _=>?_);refine ab (fun b0=>by have ho:=stop0 (by simpa using b0);subst ho;exact oa _) (fun b0=>?_);have g0:decE (rdG l 0)=0:=by simpa using b0
  refine aa rfl ?_;refine ab (fun d1=>?_) (fun d1=>?_)
  rotate_left
  ·have q:=ge 1 d1;have cnt:rdN l=1:=bW (by omega) (fun i hi=>by
    match i,hi with
    |0,_=>exact g0) (.inl (by omega))
   have ho:=fin 1 cnt;subst ho;exact n8 l _ rfl rfl
  have a1:=lt 1 d1;have E1:=E 1 a1;refine aa (D 1 a1) (aa (L1 1 a1) (aa (S 1 a1) ?_));have O1:=O 1 a1;simp only[E1,O1];have stop1:decE (rdG l 1)≠0→o=rqO l 1:=fun hb=>fin 1 (bW (by omega) (fun i hi=>by
   match i,hi with
   |0,_=>exact g0) (.inr hb))
  refine ab (fun b1=>by have ho:=stop1 (fv ((A _).symm.trans b1));subst ho;exact n8 l _ rfl rfl) (fun _=>?_);refine ab (fun b1=>by have ho:=stop1 (by simpa using b1);subst ho;exact n8 l _ rfl rfl) (fun b1=>?_);have g1:decE (rdG l 1)=0:=by simpa using b1
  refine aa rfl ?_;refine ab (fun d2=>?_) (fun d2=>?_)
  rotate_left
  ·have q:=ge 2 d2;have cnt:rdN l=2:=bW (by omega) (fun i hi=>by
    match i,hi with
    |0,_=>exact g0
    |1,_=>exact g1) (.inl (by omega))
   have ho:=fin 2 cnt;subst ho;exact n7 l _ rfl rfl rfl
  have a2:=lt 2 d2;have E2:=E 2 a2;refine aa (D 2 a2) (aa (L1 2 a2) (aa (S 2 a2) ?_));have O2:=O 2 a2;simp only[E2,O2];have stop2:decE (rdG l 2)≠0→o=rqO l 2:=fun hb=>fin 2 (bW (by omega) (fun i hi=>by
   match i,hi with
   |0,_=>exact g0
   |1,_=>exact g1) (.inr hb))
  refine ab (fun b2=>by have ho:=stop2 (fv ((A _).symm.trans b2));subst ho;exact n7 l _ rfl rfl rfl) (fun _=>?_);refine ab (fun b2=>by have ho:=stop2 (by simpa using b2);subst ho;exact n7 l _ rfl rfl rfl) (fun b2=>?_);have g2:decE (rdG l 2)=0:=by simpa using b2
  refine aa rfl ?_;refine ab (fun d3=>?_) (fun d3=>?_)
  rotate_left
  ·have q:=ge 3 d3;have cnt:rdN l=3:=bW (by omega) (fun i hi=>by
    match i,hi with
    |0,_=>exact g0
    |1,_=>exact g1
    |2,_=>exact g2) (.inl (by omega))
   have ho:=fin 3 cnt;subst ho;exact n6 l _ rfl rfl rfl rfl
  have a3:=lt 3 d3;have E3:=E 3 a3;refine aa (D 3 a3) (aa (L1 3 a3) (aa (S 3 a3) ?_));have O3:=O 3 a3;simp only[E3,O3];have stop3:decE (rdG l 3)≠0→o=rqO l 3:=fun hb=>fin 3 (bW (by omega) (fun i hi=>by
   match i,hi with
   |0,_=>exact g0
   |1,_=>exact g1
   |2,_=>exact g2) (.inr hb))
  refine ab (fun b3=>by have ho:=stop3 (fv ((A _).symm.trans b3));subst ho;exact n6 l _ rfl rfl rfl rfl) (fun _=>?_);refine ab (fun b3=>by have ho:=stop3 (by simpa using b3);subst ho;exact n6 l _ rfl rfl rfl rfl) (fun b3=>?_);have g3:decE (rdG l 3)=0:=by simpa using b3
  refine aa rfl ?_;have ho:=fin 4 (bW (by omega) (fun i hi=>by
   match i,hi with
   |0,_=>exact g0
   |1,_=>exact g1
   |2,_=>exact g2
   |3,_=>exact g3) (.inl (by omega)))
  subst ho;exact ab (fun _=>rq_fits4 l _ rfl rfl rfl rfl rfl) (fun _=>rq_fits4 l _ rfl rfl rfl rfl rfl)
 ·cases h
def rqU(l:List (List UInt8)):V×St:=(.slice 0 0 (rdN l) false 0 0,[.row (rdA (rdG l 0) 1 (rdT l)) 57 6,.ro true (strs (dL (rdG l 0))),.ro true (nmR l 1),.ro true (nmR l 2),.ro true (nmR l 3)])
def rreadU:List V→Option (List (Bool×(V×St)))
 |[.lst _ n cs]=>some [(okLL n cs&&Nat.beq (rdN (cs.map ac)) 0,(.nilSlice,[])),(okLL n cs,rqU (cs.map ac))]
 |_=>none
theorem rreadU_ok(args:List V)(L:List (Bool×(V×St)))(o:V×St)(h:rreadU args=some L)(ho:az L=some o):FnSat Tryz.prog 34 args [] (Is o):=by
 unfold rreadU at h;split at h
 ·rename_i x n cs;cases h;cases hk:okLL n cs with
  |false=>rw[hk]at ho;simp[az]at ho
  |true=>
  rw[hk,Bool.true_and]at ho;have get:∀j,rdN (cs.map ac)=j→FnSat Tryz.prog 34 [.lst x n cs] [] (Is (rqO (cs.map ac) j)):=by
   intro j hj;refine rreadT_ok [.lst x n cs] _ _ rfl ?_;have h4:=(ci (cs.map ac)).1;rw[hk,hj];rw[hj]at h4
   match j,h4 with
   |0,_|1,_|2,_|3,_|4,_=>rfl
  have h4:=(ci (cs.map ac)).1;rcases(by omega:rdN (cs.map ac)=0∨rdN (cs.map ac)=1∨rdN (cs.map ac)=2∨rdN (cs.map ac)=3∨rdN (cs.map ac)=4)with hj|hj|hj|hj|hj
  ·rw[hj]at ho;cases ho;exact get 0 hj
  ·rw[hj]at ho;cases ho;have:=eq (i:=1) rfl (eq (i:=1) rfl (eq (i:=1) rfl (get 1 hj)));unfold rqU rdT nmR;rw[hj];exact this
  ·rw[hj]at ho;cases ho;have:=eq (i:=1) rfl (eq (i:=1) rfl (get 2 hj));unfold rqU rdT nmR;rw[hj];exact this
  ·rw[hj]at ho;cases ho;have:=eq (i:=1) rfl (get 3 hj);unfold rqU rdT nmR;rw[hj];exact this
  ·rw[hj]at ho;cases ho;have:=get 4 hj;unfold rqU rdT nmR;rw[hj];exact this
 ·cases h
noncomputable def RL0:Tab:=⟨addP noT 74 digP,noL,aL 9⟩
theorem RL0_ok:TabOk3 Tryz.prog RL0:=⟨aN aA rdg_ok,aB,ak 9⟩
theorem rlk_round(x:Value)(n:Nat)(cs:List V)(i:Int)(R:Exit→List (Option V)→St→Prop):ah Tryz.prog RL0 9 10 (ad 9) 36 26 [0,2,3] [.lst x n cs,.bool false,.int .i64 i] [] R=
  (
 bif decide (i64.wrap (i+1)<(↑n:Int))then bif decide (0≤i)&&decide (i<(↑n:Int))then bif (i.toNat*6+1).blt cs.length then bif al (cs.getD
 (i.toNat*6+1) (.bool false))then bif decide (0≤i64.wrap (i+1))&&decide (i64.wrap (i+1)<(↑n:Int))then bif ((i64.wrap (i+
 1)).toNat*6+0).blt cs.length then bif al (cs.getD ((i64.wrap (i+1)).toNat*6+0) (.bool false))then bif !ac (cs.getD (i.toNat*6+1) (.bool
 false))==digB (ac (cs.getD ((i64.wrap (i+1)).toNat*6+0) (.bool false)))then R .ret [some (.lst x n cs),some (.bool false),some (.int
 i64 i)] []else bif decide (0≤i64.wrap (i+1))&&decide (i64.wrap (i+1)<(↑n:Int))then bif ((i64.wrap (i+1)).toNat*6+
 5).blt cs.length then bif dZ (cs.getD ((i64.wrap (i+1)).toNat*6+5) (.bool false))then bif !fd (cs.getD ((i64.wrap (i+1)).toNat*6+
 5) (.bool false))then R .ret [some (.lst x n cs),some (.bool false),some (.int i64 i)] []else R .normal [some (.lst x n cs),some (.bool false),
 some (.int i64 (i64.wrap (i+1)))] []else False else False else False else False else False else False else False else False else False else R
 (.exit 0) [some (.lst x n cs),some (.bool false),some (.int i64 i)] []):=by kernel_rfl
structure RLX where
 x:Value
 n:Nat
 cs:List V
 i:Nat
def rlxV(y:RLX):List V:=[.lst y.x y.n y.cs,.bool false,.int .i64 y.i]
def rlxJ(_:RLX):St:=[]
def iO(y:RLX):Bool:=okR y.n y.cs&&Nat.ble y.i (y.n-1)
def rlxMu(y:RLX):Nat:=y.n-y.i
def rlxDec:List (Option V)→St→Option RLX
 |[some (.lst x n cs),some (.bool false),some (.int .i64 0)],_=>some ⟨x,n,cs,0⟩
 |_,_=>none
def linkS(cs:List V)(i:Nat):Bool:=cw ((crD [] cs).drop i)
def rlxOutG(x:Value)(n:Nat)(cs:List V)(c:Bool)(K:Exit→List V→St→Prop):Prop:=
 bif c then ∀j:Int,K (.exit 0) [.lst x n cs,.bool false,.int .i64 j] []else ∀j:Int,K .ret [.lst x n cs,.bool false,.int .i64 j] []
def rM:Asks RLX:=fun y K=>rlxOutG y.x y.n y.cs (linkS y.cs y.i) K
theorem rlx_roundOk(y:RLX)(hx:iO y=true):ah Tryz.prog RL0 9 10 (ad 9) 36 26 [0,2,3] (rlxV y) (rlxJ y) (ay 0 iO rlxV rlxJ rlxMu rM y):=by
 obtain⟨x,n,cs,i⟩:=y;unfold iO at hx;rw[Bool.and_eq_true]at hx;have p1:i≤n-1:=Nat.le_of_ble_eq_true hx.2;have hx1:okR n cs=true:=hx.1;obtain⟨p2,p3,p4,p5⟩:=oG hx1;show ah Tryz.prog RL0 9 10 (ad 9) 36 26 [0,2,3] [.lst x n cs,.bool false,.int .i64 i] [] _;rw[rlk_round];have out:∀K,rM ⟨x,n,cs,i⟩ K→rlxOutG x n cs (cw ((crD [] cs).drop i)) K:=fun K hK=>hK;have w2:i64.wrap ((i:Int)+1)=((i+1:Nat):Int):=by rw[IntWalk.i64_in _ ⟨by omega,by omega⟩];omega
 rw[w2];by_cases hi:i+1<n
 ·obtain⟨a,r,ha⟩:∃a r,(crD [] cs).drop i=a::r:=by
   cases hd:(crD [] cs).drop i with
   |nil=>have:=congrArg List.length hd;simp at this;omega
   |cons a r=>exact⟨a,r,rfl⟩
  obtain⟨_,ha2,_⟩:=bh ha;obtain⟨c,q,hc⟩:∃c q,r=c::q:=by
   cases r with
   |nil=>have:=congrArg List.length ha;simp at this;omega
   |cons c q=>exact⟨c,q,rfl⟩
  subst hc;have A:=cr_at p2 ha;have C:=cr_at p2 ha2;have d1:decide (((i+1:Nat):Int)<(n:Int))=true:=decide_eq_true (by omega);have d2:decide ((0:Int)≤((i+1:Nat):Int))=true:=decide_eq_true (by omega);have d3:decide ((i:Int)<(n:Int))=true:=decide_eq_true (by omega);have d4:decide ((0:Int)≤(i:Int))=true:=decide_eq_true (by omega);have l5:((i+1)*6+5).blt cs.length=true:=Nat.ble_eq_true_of_le (by omega);have l1:(i*6+1).blt cs.length=true:=Nat.ble_eq_true_of_le (by omega);have l0:((i+1)*6+0).blt cs.length=true:=Nat.ble_eq_true_of_le (by omega);simp only[d1,d2,d3,d4,Int.toNat_natCast,l5,l1,l0,A.g,C.ca,C.k,dZ,fd,al,ac,Bool.and_self,cond_true];have next:(cw ((crD [] cs).drop i))=(c.ca&&((a.g==digB c.k)&&cw ((crD [] cs).drop (i+1)))):=by rw[ha,ha2];rfl
  have bad:cw ((crD [] cs).drop i)=false→ay 0 iO rlxV rlxJ rlxMu rM ⟨x,n,cs,i⟩ .ret [some (.lst x n cs),some (.bool false),some (.int .i64 (i:Int))] []:=fun h=>by
   refine⟨_,[],fun K hK=>?_,bn [.lst x n cs,.bool false,.int .i64 i] rfl _ rfl _⟩;have hK:=out K hK;rw[h]at hK;exact hK _
  cases h1:(a.g==digB c.k)with
  |false=>exact bad (by rw[next,h1];simp)
  |true=>
   cases h2:c.ca with
   |false=>exact bad (by rw[next,h2];rfl)
   |true=>
    rw[h1,h2,Bool.true_and,Bool.true_and]at next
    refine⟨⟨x,n,cs,i+1⟩,?_,bn [.lst x n cs,.bool false,.int .i64 ((i+1:Nat):Int)] rfl _ rfl _,by simp only[rlxMu];omega,fun K hK=>?_⟩
    ·unfold iO;rw[Bool.and_eq_true];exact⟨hx1,Nat.ble_eq_true_of_le (show i+1≤n-1 by omega)⟩
    ·have hK:=out K hK;rw[next]at hK;exact hK
 ·rw[decide_eq_false (show ¬(((i+1:Nat):Int)<(n:Int)) by omega),cond_false];refine⟨_,[],fun K hK=>?_,bn [.lst x n cs,.bool false,.int .i64 i] rfl _ rfl _⟩;have hK:=out K hK;have:cw ((crD [] cs).drop i)=true:=by
   match hd:(crD [] cs).drop i with
   |[]=>rfl
   |[_]=>rfl
   |_::_::_=>have:=congrArg List.length hd;simp at this;omega
  rw[this]at hK;exact hK _
noncomputable def lkRLX:Nat→Trans→Trans:=aR 26 (br 0 (szOf Tryz.prog 36) [0,2,3] rlxDec iO rlxV rlxJ rM) (ad 9)
theorem lkRLX_ok:aD Tryz.prog 0 lkRLX 36:=by
 unfold lkRLX;exact bo (aP 9 0 36) (by kernel_rfl) fun f st Q h=>aU (P:=Tryz.prog) (T:=RL0) (k:=0) (lim:=9) (n:=10) (g:=36) (p0:=26) (lk:=ad 9) mixed RL0_ok (aS 9 _ _) rlxMu rlx_roundOk h
noncomputable def RL1:Tab:=⟨noT,noL,cn (aL 9) 36 0 lkRLX⟩
theorem RL1_ok:TabOk3 Tryz.prog RL1:=⟨aA,aB,bc (ak 9) lkRLX_ok⟩
theorem rlink_tree(x:Value)(n:Nat)(cs:List V)(R:V→Prop):runW Tryz.prog RL1 9 10 36 [.lst x n cs] R=
  (
 Fits 0 [.lst x n cs,.bool false,.int i64 0] [] [some (.lst x n cs),some (.bool false),some (.int i64 0)] []∧bif iO {x:=x,n:=n,cs:=cs,i:=0}
 then bif linkS cs 0 then ∀(j:Int),R (.bool true)else ∀(j:Int),R (.bool false)else False):=by kernel_rfl
theorem rlink_sat(x:Value)(n:Nat)(cs:List V)(h:okR n cs=true):FnSat Tryz.prog 36 [.lst x n cs] [] (Is (.bool (cw (crD [] cs)),[])):=by
 refine ax (lim:=9) (n:=10) mixed RL1_ok rfl rfl ?_;rw[rlink_tree];refine⟨bn [.lst x n cs,.bool false,.int .i64 0] rfl _ rfl _,aa ?_ ?_⟩
 ·unfold iO;rw[Bool.and_eq_true];exact⟨h,Nat.ble_eq_true_of_le (Nat.zero_le _)⟩
 ·have e:linkS cs 0=cw (crD [] cs):=rfl;rw[←e];cases linkS cs 0 with
  |true=>intro j;rfl
  |false=>intro j;rfl
theorem rlinkG_ok(args:List V)(s:St)(l:List (Bool×(V×St)))(o:V×St)(h:qD args s=some l)(ho:az l=some o):FnSat Tryz.prog 36 args s (Is o):=by
 unfold qD at h;split at h
 ·rename_i p;split at h
  ·rename_i b ls hv;cases h;obtain⟨hb,rfl⟩:=aJ ho;rw[Bool.and_eq_true]at hb;obtain⟨rfl,h1⟩:=hb;refine cE rfl fun B W0 w m rargs hr ha=>?_;obtain⟨a,r,q1,q2,rfl⟩:=aj ha;obtain⟨L,e1,e2,e3⟩:=nN hr hv q1;have q3:=bL (Ψ:=Frz.of w) (m':=[]) _ _ rfl q2;have hl:L.length≤9223372036854775807:=by rw[←List.length_map (f:=(·.c)),e1];exact Nat.le_of_ble_eq_true h1
   have:=@rlink_sat (Frz.of w) a L.length (crs L) (okR_mk hl e3);rw[lJ,e1]at this;exact⟨[lstR a L],@aH _ (Frz.of w) [] _ _ _ _ e2 q3,this⟩
  ·cases h
 ·cases h
theorem rus_tree(u s m:Int)(d:List UInt8)(R:V→Prop):runW Tryz.prog T3 9 10 22 [.agg [.int .u8 u,.int .u8 s,.int .u8 m,.str d]] R=
  (
 bif u==2 then bif decide (s<2)then bif decide (m<2)then bif decide ((↑d.length:Int)≥1)then bif decide ((↑d.length:Int)≤512)then bif m==0 then R
 (.bool true)else R (.bool ((↑d.length:Int)==32))else R (.bool false)else R (.bool false)else R (.bool false)else R (.bool false)else bif u==3 then bif
 decide (s<2)then bif decide (m<2)then bif decide ((↑d.length:Int)≥1)then bif decide ((↑d.length:Int)≤512)then bif m==0 then R (.bool true)else R
 (.bool ((↑d.length:Int)==32))else R (.bool false)else R (.bool false)else R (.bool false)else R (.bool false)else R (.bool false)):=by kernel_rfl
noncomputable def RK0:Tab:=⟨addT (addT (addP noT 91 kQ) 92 sumT) 70 rdecT,noL,aL 9⟩
theorem RK0_ok:TabOk3 Tryz.prog RK0:=⟨aE (aE (aN aA n5) rsum_ok) rdec_ok,aB,ak 9⟩
theorem rdat_tree(u s m:Int)(d c:List UInt8)(R:V→Prop):runW Tryz.prog RK0 9 10 55 [.agg [.int .u8 u,.int .u8 s,.int .u8 m,.str d],.str c] R=
  (
 bif au c&&Nat.blt 512 c.length then R (.tuple [.str [],.bool false])else bif au c&&decE c !=0 then R (.tuple [.str [],.bool false])else bif au c
 then bif s==1 then bif m==1 then bif okL (bN (dK c))then R (.tuple [.str (sumF (bN (dK c))),.bool true])else False else R (.tuple [.str (bN (dK c)),
 .bool true])else bif m==1 then bif okL c then R (.tuple [.str (sumF c),.bool true])else False else R (.tuple [.str c,.bool true])else False):=by kernel_rfl
def rusP:List V→Option (List (Bool×(V×St)))
 |[.agg [.int .u8 u,.int .u8 s,.int .u8 m,.str d]]=>some [(u8B s&&u8B m,(.bool (usB u s m d),[]))]
 |_=>none
theorem u8_in{n:Int}(h:u8B n=true):0≤n∧n≤255:=of_decide_eq_true h
theorem rus_ok(args:List V)(l:List (Bool×(V×St)))(o:V×St)(h:rusP args=some l)(ho:az l=some o):FnSat Tryz.prog 22 args [] (Is o):=by
 unfold rusP at h;split at h
 ·rename_i u s m d;cases h;obtain⟨hk,rfl⟩:=aJ ho;rw[Bool.and_eq_true]at hk;have h1:=u8_in hk.1;have h2:=u8_in hk.2;refine ax (lim:=9) (n:=10) mixed rh rfl rfl ?_;rw[rus_tree];unfold usB;have ws:i64.wrap s=s:=IntWalk.i64_in _ ⟨by omega,by omega⟩;have wm:i64.wrap m=m:=IntWalk.i64_in _ ⟨by omega,by omega⟩;have e1:decide (s<2)=!decide (i64.wrap s≥2):=by
   rw[ws];by_cases h:s<2
   ·rw[decide_eq_true h,decide_eq_false (by omega)];rfl
   ·rw[decide_eq_false h,decide_eq_true (by omega)];rfl
  have e2:decide (m<2)=!decide (i64.wrap m≥2):=by
   rw[wm];by_cases h:m<2
   ·rw[decide_eq_true h,decide_eq_false (by omega)];rfl
   ·rw[decide_eq_false h,decide_eq_true (by omega)];rfl
  have e3:decide ((d.length:Int)≥1)=!(d==[]):=by
   cases d with
   |nil=>rfl
   |cons b r=>rw[decide_eq_true (by simp only[List.length_cons];omega)];rfl
  rw[e1,e2,e3];cases u==2<;>cases u==3<;>cases decide (i64.wrap s≥2)<;>cases decide (i64.wrap m≥2)<;>cases d==[]<;>cases decide ((d.length:Int)≤512)<;>cases m==0<;>rfl
 ·cases h
def takeR(s:Int)(c:List UInt8):List UInt8:=bif s==1 then bN (dK c)else c
def datR(s m:Int)(c:List UInt8):List UInt8:=bif m==1 then sumF (takeR s c)else takeR s c
def rdatT:List V→Option (List (Bool×(V×St)))
 |[.agg [.int .u8 _,.int .u8 s,.int .u8 m,.str _],.str c]=>some [(au c,(.tuple [.str (bif decE c==0 then datR s m c else[]),.bool (decE c==0)],[]))]
 |_=>none
theorem rdat_ok(args:List V)(l:List (Bool×(V×St)))(o:V×St)(h:rdatT args=some l)(ho:az l=some o):FnSat Tryz.prog 55 args [] (Is o):=by
 unfold rdatT at h;split at h
 ·rename_i u s m d c;cases h;obtain⟨hk,rfl⟩:=aJ ho;refine ax (lim:=9) (n:=10) mixed RK0_ok rfl rfl ?_;rw[rdat_tree,hk,cond_true,Bool.true_and,Bool.true_and];refine ab (fun h1=>?_) (fun h1=>?_)
  ·rw[(by simpa using fv h1:(decE c==0)=false)];rfl
  refine ab (fun h2=>?_) (fun h2=>?_)
  ·rw[(by simpa using h2:(decE c==0)=false)];rfl
  have h2:(decE c==0)=true:=by simpa using h2
  have kc:okL c=true:=decide_eq_true (by
   have:¬512<c.length:=fun hb=>by have:=Nat.ble_eq_true_of_le hb;exact absurd (show Nat.blt 512 c.length=true from this) (by rw[h1];decide)
   omega)
  have kk:okL (bN (dK c))=true:=decide_eq_true (by have:=spki_len (dK c);omega);rw[h2,kc,kk];unfold datR takeR;cases s==1<;>cases m==1<;>rfl
 ·cases h
noncomputable def RK1:Tab:=⟨addT (addT noT 22 rusP) 55 rdatT,noL,aL 9⟩
theorem RK1_ok:TabOk3 Tryz.prog RK1:=⟨aE (aE aA rus_ok) rdat_ok,aB,ak 9⟩
theorem rof_tree(u s m:Int)(d c:List UInt8)(R:V→Prop):runW Tryz.prog RK1 9 10 23 [.agg [.int .u8 u,.int .u8 s,.int .u8 m,.str d],.str c] R=
  (
 bif au c then bif decE c==0 then bif u8B s&&u8B m then bif usB u s m d then R (.bool ((bif decE c==0 then datR s m c else[])==d))else R (.bool false)else
 False else R (.bool false)else False):=by kernel_rfl
def rofT:List V→Option (List (Bool×(V×St)))
 |[.agg [.int .u8 u,.int .u8 s,.int .u8 m,.str d],.str c]=>some [(au c&&(u8B s&&u8B m),(.bool (ofB u s m d c),[]))]
 |_=>none
theorem of_same{u s m:Int}{d c:List UInt8}(h1:0≤s∧s≤255)(h2:0≤m∧m≤255):ofB u s m d c=((decE c==0)&&(usB u s m d&&(datR s m c==d))):=by
 have ws:i64.wrap s=s:=IntWalk.i64_in _ ⟨by omega,by omega⟩;have wm:i64.wrap m=m:=IntWalk.i64_in _ ⟨by omega,by omega⟩;unfold ofB ef;cases hu:usB u s m d with
 |false=>simp
 |true=>
  unfold usB at hu;rw[Bool.and_eq_true,Bool.and_eq_true,Bool.and_eq_true,Bool.not_eq_true',Bool.not_eq_true']at hu;obtain⟨_,h3,h4,_⟩:=hu;rw[h3,h4];rw[ws]at h3;rw[wm]at h4;have h3:=of_decide_eq_false h3;have h4:=of_decide_eq_false h4;have e:pk s m c=datR s m c:=by
   unfold pk datR takeB takeR;rcases(by omega:s=0∨s=1)with h|h<;>rcases(by omega:m=0∨m=1)with h'|h'<;>subst h<;>subst h'<;>rfl
  rw[e];cases decE c==0<;>rfl
theorem rof_ok(args:List V)(l:List (Bool×(V×St)))(o:V×St)(h:rofT args=some l)(ho:az l=some o):FnSat Tryz.prog 23 args [] (Is o):=by
 unfold rofT at h;split at h
 ·rename_i u s m d c;cases h;obtain⟨hk,rfl⟩:=aJ ho;rw[Bool.and_eq_true,Bool.and_eq_true]at hk;refine ax (lim:=9) (n:=10) mixed RK1_ok rfl rfl ?_;rw[rof_tree,of_same (u8_in hk.2.1) (u8_in hk.2.2),hk.1,hk.2.1,hk.2.2];cases decE c==0<;>cases usB u s m d<;>rfl
 ·cases h
end Go.Proofs.YthcoeoibejgaiaaGreatDoor
