/- Parts of this work: what the functions come to. -/
import Derived.Test.YtnenadbbhdcaoaaDoorP1
import Derived.Test.YtnenadbbhdcaoaaDoorVmc
namespace Go.Proofs.YtnenadbbhdcaoaaDoor
open Go.IntKind (u8 u16 u32 u64 i8 i16 i32 i64)
open Go Go.Vm Go.RowKit
set_option linter.unusedVariables false
set_option linter.unusedSectionVars false
set_option maxRecDepth 100000
variable [Φ:Frz]
theorem rlong_tree(n:Int)(R:V→Prop):runW Tryd.prog RN13 9 10 98 [.int .i64 n] R=
  (
 bif decide (n<128)then R (.str [oneB n])else bif decide (n<256)then R (.str ([129]++[oneB n]))else R (.str ([130]++[oneB (i64.wrap (n.tdiv 256))]
 ++[oneB n]))):=by kernel_rfl
def pr:List V→Option (List (Bool×(V×St)))
 |[.int .i64 n]=>some [(decide (0≤n)&&decide (n≤65535),(.str (lenB n.toNat),[]))]
 |_=>none
theorem pF{n:Nat}:oneB (n:Int)=UInt8.ofNat n:=by
 unfold oneB;rw[Int.tmod_eq_emod_of_nonneg (by omega),IntKind.wrap_u8];apply UInt8.toNat_inj.1;simp only[UInt8.toNat_ofNat'];omega
theorem rlong_ok(args:List V)(l:List (Bool×(V×St)))(o:V×St)(h:pr args=some l)(ho:aC l=some o):FnSat Tryd.prog 98 args [] (Is o):=by
 unfold pr at h;split at h
 ·rename_i n;cases h;obtain⟨hk,rfl⟩:=aX ho;simp only[Bool.and_eq_true,decide_eq_true_eq]at hk;obtain⟨m,rfl⟩:∃m:Nat,n=m:=⟨n.toNat,by omega⟩;have hm:m≤65535:=by omega
  refine au (lim:=9) (n:=10) ax iA rfl rfl ?_;rw[rlong_tree,Int.toNat_natCast];have w:i64.wrap ((m:Int).tdiv 256)=((m/256:Nat):Int):=by
   rw[Int.tdiv_eq_ediv_of_nonneg (by omega),IntWalk.i64_in _ ⟨by omega,by omega⟩];omega
  rw[w,pF,pF];unfold lenB;refine ab (fun h=>?_) (fun h=>ab (fun h1=>?_) (fun h1=>?_))
  ·have h:=of_decide_eq_true h;rw[if_neg (by omega),if_neg (by omega)]
  ·have h:=of_decide_eq_false h;have h1:=of_decide_eq_true h1;rw[if_neg (by omega),if_pos (by omega)];rfl
  ·have h1:=of_decide_eq_false h1;rw[if_pos (by omega)];rfl
 ·cases h
noncomputable def RP0:Tab:=⟨addT (addP noT 90 kE) 98 pr,noL,aV 3⟩
theorem kG:TabOk3 Tryd.prog RP0:=⟨bm (aS aF jY) rlong_ok,aG,ap 3⟩
noncomputable def RP2:Tab:=⟨addT (addP noT 90 kE) 98 pr,noL,aV 0⟩
theorem RP2_ok:TabOk3 Tryd.prog RP2:=⟨bm (aS aF jY) rlong_ok,aG,ap 0⟩
theorem rput_tree(t:Int)(s:List UInt8)(R:V→Prop):runW Tryd.prog RP0 9 10 89 [.agg [.int .u8 t,.str s]] R=
  (
 bif t.tmod 32==31 then R (.tuple [.str [],.int i64 4])else bif decide ((↑s.length:Int)>65535)then R (.tuple [.str [],.int i64 40])else
 bif true&&decide ((↑s.length:Int)≤65535)then bif (1+(lenB (↑s.length:Int).toNat).length).ble 9223372036854775807 then bif (([oneB (i64.wrap t)]++lenB
 (↑s.length:Int).toNat).length+s.length).ble 9223372036854775807 then R (.tuple [.str ([oneB (i64.wrap t)]++lenB (↑s.length:Int).toNat++s),.int
 i64 0])else False else False else False):=by kernel_rfl
noncomputable def zs_0(s:List UInt8):=(1+(↑(lenB (i64.wrap (↑(s.getD 1 0).toNat:Int)).toNat).length:Int))
noncomputable def zs_1(s:List UInt8):=(i64.wrap (zs_0 s)+i64.wrap (↑(s.getD 1 0).toNat:Int))
noncomputable def zs_2:=V.tuple [V.agg [V.int u8 0,V.str []],V.str [],V.int i64 4]
noncomputable def zs_3:=V.tuple [V.agg [V.int u8 0,V.str []],V.str [],V.int i64 8]
theorem rget_g(s:List UInt8)(R:V→Prop):runW Tryd.prog RP2 3 10 60 [.str s] R=
 (
 bif s==[]then R zs_3 else bif true&&Nat.blt 0 s.length then bif (↑(s.getD 0 0).toNat:Int).tmod 32==31 then R zs_2 else bif (↑s.length:Int)==1 then R
 zs_3 else bif true&&Nat.blt 1 s.length then bif (↑(s.getD 1 0).toNat:Int)==128 then R zs_2 else bif decide ((↑(s.getD 1 0).toNat:Int)>130)then R zs_2
 else bif decide ((↑(s.getD 1 0).toNat:Int)>128)then False else bif decide (0≤i64.wrap (↑(s.getD 1 0).toNat:Int))&&decide (i64.wrap
 (↑(s.getD 1 0).toNat:Int)≤65535)then bif decide (0≤i64.wrap (zs_0 s))then bif Nat.ble 1 (i64.wrap (zs_0 s)).toNat&&(i64.wrap
 (zs_0 s)).toNat.ble s.length then bif !List.take ((i64.wrap (zs_0 s)).toNat-1) (List.drop 1 s)==lenB (i64.wrap (↑(s.getD 1 0).toNat:
 Int)).toNat then R zs_2 else bif decide (i64.wrap (zs_1 s)>(↑s.length:Int))then R zs_3 else bif true&&Nat.blt 0 s.length then bif decide (0≤
 i64.wrap (zs_0 s))then bif decide (0≤i64.wrap (zs_1 s))then bif (i64.wrap (zs_0 s)).toNat.ble (i64.wrap (zs_1 s)).toNat&&
 (i64.wrap (zs_1 s)).toNat.ble s.length then bif decide (0≤i64.wrap (zs_1 s))then bif (i64.wrap (zs_1 s)).toNat.ble s.length&&
 s.length.ble s.length then R (.tuple [.agg [.int u8 (↑(s.getD 0 0).toNat:Int),.str (List.take ((i64.wrap (zs_1 s)).toNat-
 (i64.wrap (zs_0 s)).toNat) (List.drop (i64.wrap (zs_0 s)).toNat s))],.str (List.take (s.length-(i64.wrap (zs_1 s)).toNat) (List.drop
 (i64.wrap (zs_1 s)).toNat s)),.int i64 0])else False else False else False else False else False else False else False else False else False
 else False else False):=by kernel_rfl
theorem rget_a0(a:UInt8)(R:V→Prop):runW Tryd.prog RP0 3 10 60 [.str [a,129]] R=
  (
 bif (↑([a,129].getD 0 0).toNat:Int).tmod 32==31 then R (.tuple [.agg [.int u8 0,.str []],.str [],.int i64 4])else R (.tuple [.agg [.int
 u8 0,.str []],.str [],.int i64 8])):=by kernel_rfl
noncomputable def zs_6(a c:UInt8)(r:List UInt8):=(0+i64.wrap (↑((a::129::c::r).getD 2 0).toNat:Int))
noncomputable def zs_4(a c:UInt8)(r:List UInt8):=(1+(↑(lenB (i64.wrap (zs_6 a c r)).toNat).length:Int))
noncomputable def zs_5(a c:UInt8)(r:List UInt8):=(i64.wrap (zs_4 a c r)+i64.wrap (zs_6 a c r))
noncomputable def zs_7:=V.tuple [V.agg [V.int u8 0,V.str []],V.str [],V.int i64 4]
theorem rget_a1(a c:UInt8)(r:List UInt8)(R:V→Prop):runW Tryd.prog RP0 3 10 60 [.str (a::129::c::r)] R=
 (
 bif (↑((a::129::c::r).getD 0 0).toNat:Int).tmod 32==31 then R zs_7 else bif i64.wrap (zs_6 a c r)==0 then R zs_7 else bif decide (0≤
 i64.wrap (zs_6 a c r))&&decide (i64.wrap (zs_6 a c r)≤65535)then bif decide (0≤i64.wrap (zs_4 a c r))then bif Nat.ble 1
 (i64.wrap (zs_4 a c r)).toNat&&(i64.wrap (zs_4 a c r)).toNat.ble (a::129::c::r).length then bif !List.take ((i64.wrap (zs_4 a c
 r)).toNat-1) (List.drop 1 (a::129::c::r))==lenB (i64.wrap (zs_6 a c r)).toNat then R zs_7 else bif decide (i64.wrap (zs_5 a c r)>(↑(a
 ::129::c::r).length:Int))then R (.tuple [.agg [.int u8 0,.str []],.str [],.int i64 8])else bif decide (0≤i64.wrap
 (zs_4 a c r))then bif decide (0≤i64.wrap (zs_5 a c r))then bif (i64.wrap (zs_4 a c r)).toNat.ble (i64.wrap (zs_5 a c r)).toNat&&
 (i64.wrap (zs_5 a c r)).toNat.ble (a::129::c::r).length then bif decide (0≤i64.wrap (zs_5 a c r))then bif (i64.wrap (zs_5 a c
 r)).toNat.ble (a::129::c::r).length&&(a::129::c::r).length.ble (a::129::c::r).length then R (.tuple [.agg [.int u8 (↑((a::129::
 c::r).getD 0 0).toNat:Int),.str (List.take ((i64.wrap (zs_5 a c r)).toNat-(i64.wrap (zs_4 a c r)).toNat) (List.drop (i64.wrap
 (zs_4 a c r)).toNat (a::129::c::r)))],.str (List.take ((a::129::c::r).length-(i64.wrap (zs_5 a c r)).toNat) (List.drop (i64.wrap
 (zs_5 a c r)).toNat (a::129::c::r))),.int i64 0])else False else False else False else False else False else False else False else False):=by kernel_rfl
theorem rget_b0(a:UInt8)(R:V→Prop):runW Tryd.prog RP0 3 10 60 [.str [a,130]] R=
  (
 bif (↑([a,130].getD 0 0).toNat:Int).tmod 32==31 then R (.tuple [.agg [.int u8 0,.str []],.str [],.int i64 4])else R (.tuple [.agg [.int
 u8 0,.str []],.str [],.int i64 8])):=by kernel_rfl
theorem rget_b1(a c:UInt8)(R:V→Prop):runW Tryd.prog RP0 3 10 60 [.str [a,130,c]] R=
  (
 bif (↑([a,130,c].getD 0 0).toNat:Int).tmod 32==31 then R (.tuple [.agg [.int u8 0,.str []],.str [],.int i64 4])else bif i64.wrap
 (0+i64.wrap (↑([a,130,c].getD 2 0).toNat:Int))==0 then R (.tuple [.agg [.int u8 0,.str []],.str [],.int i64 4])else R (.tuple
 [.agg [.int u8 0,.str []],.str [],.int i64 8])):=by kernel_rfl
noncomputable def zs_8(a c d:UInt8)(r:List UInt8):=(i64.wrap (i64.wrap (0+i64.wrap (↑((a::130::c::d::r).getD 2 0).toNat:Int))*256)+i64.wrap (↑((a::130::c::d::r).getD 3 0).toNat:Int))
noncomputable def iC(a c d:UInt8)(r:List UInt8):=(1+(↑(lenB (i64.wrap (zs_8 a c d r)).toNat).length:Int))
noncomputable def zs_9(a c d:UInt8)(r:List UInt8):=(i64.wrap (iC a c d r)+i64.wrap (zs_8 a c d r))
noncomputable def zs_11:=V.tuple [V.agg [V.int u8 0,V.str []],V.str [],V.int i64 4]
theorem rget_b2(a c d:UInt8)(r:List UInt8)(R:V→Prop):runW Tryd.prog RP0 3 10 60 [.str (a::130::c::d::r)] R=
 (
 bif (↑((a::130::c::d::r).getD 0 0).toNat:Int).tmod 32==31 then R zs_11 else bif i64.wrap (0+i64.wrap (↑((a::130::c::d::
 r).getD 2 0).toNat:Int))==0 then R zs_11 else bif i64.wrap (zs_8 a c d r)==0 then R zs_11 else bif decide (0≤i64.wrap (zs_8 a c d r))&&
 decide (i64.wrap (zs_8 a c d r)≤65535)then bif decide (0≤i64.wrap (iC a c d r))then bif Nat.ble 1 (i64.wrap (iC a c d
 r)).toNat&&(i64.wrap (iC a c d r)).toNat.ble (a::130::c::d::r).length then bif !List.take ((i64.wrap (iC a c d r)).toNat-1)
 (List.drop 1 (a::130::c::d::r))==lenB (i64.wrap (zs_8 a c d r)).toNat then R zs_11 else bif decide (i64.wrap (zs_9 a c d r)>(↑(a::
 130::c::d::r).length:Int))then R (.tuple [.agg [.int u8 0,.str []],.str [],.int i64 8])else bif decide (0≤i64.wrap
 (iC a c d r))then bif decide (0≤i64.wrap (zs_9 a c d r))then bif (i64.wrap (iC a c d r)).toNat.ble (i64.wrap (zs_9 a c d
 r)).toNat&&(i64.wrap (zs_9 a c d r)).toNat.ble (a::130::c::d::r).length then bif decide (0≤i64.wrap (zs_9 a c d r))then bif
 (i64.wrap (zs_9 a c d r)).toNat.ble (a::130::c::d::r).length&&(a::130::c::d::r).length.ble (a::130::c::d::r).length then R
 (.tuple [.agg [.int u8 (↑((a::130::c::d::r).getD 0 0).toNat:Int),.str (List.take ((i64.wrap (zs_9 a c d r)).toNat-
 (i64.wrap (iC a c d r)).toNat) (List.drop (i64.wrap (iC a c d r)).toNat (a::130::c::d::r)))],.str (List.take ((a::130::c::d
 ::r).length-(i64.wrap (zs_9 a c d r)).toNat) (List.drop (i64.wrap (zs_9 a c d r)).toNat (a::130::c::d::r))),.int i64 0])
 else False else False else False else False else False else False else False else False):=by kernel_rfl
theorem rput_ok(args:List V)(l:List (Bool×(V×St)))(o:V×St)(h:putF args=some l)(ho:aC l=some o):FnSat Tryd.prog 89 args [] (Is o):=by
 unfold putF at h;split at h
 ·rename_i t s;cases h;obtain⟨hk,rfl⟩:=aX ho;obtain⟨n,rfl,hn⟩:=i9 hk;refine au (lim:=9) (n:=10) ax kG rfl rfl ?_;rw[rput_tree,IntWalk.i64_in (n:Int) ⟨by omega,by omega⟩,pF,Int.toNat_natCast];refine ab (fun h=>?_) (fun h=>ab (fun h1=>?_) (fun h1=>?_))
  ·have:(n:Int)%32=31:=by
    have:=beq_iff_eq.1 h;rwa [Int.tmod_eq_emod_of_nonneg (by omega)]at this
   simp[putB,putE,this]
  ·have h0:¬(n:Int)%32=31:=by
    intro e;rw[Int.tmod_eq_emod_of_nonneg (by omega),e]at h;cases h
   have h1:=of_decide_eq_true h1;have h1:s.length>65535:=by omega
   simp[putB,putE,h0,h1]
  ·have h0:¬(n:Int)%32=31:=by
    intro e;rw[Int.tmod_eq_emod_of_nonneg (by omega),e]at h;cases h
   have h1:=of_decide_eq_false h1;have h1:¬s.length>65535:=by omega
   have hL:=jL s.length;refine aa (by rw[Bool.true_and];exact decide_eq_true (by omega)) (aa (Nat.ble_eq_true_of_le (by omega)) (aa (Nat.ble_eq_true_of_le (by simp;omega)) ?_));simp[putB,putE,h0,h1]
 ·cases h
def gv(s:List UInt8):V:=.tuple [.agg [.int .u8 (bo s),.str (ag s)],.str (bJ s),.int .i64 (aH s)]
theorem cT{s:List UInt8}{e:Int}(h:aH s=e)(he:e≠0):V.tuple [.agg [.int .u8 0,.str []],.str [],.int .i64 e]=gv s:=by
 have h0:¬aH s=0:=by rw[h];exact he
 unfold gv bo ag bJ;rw[if_neg h0,if_neg h0,if_neg h0,h]
theorem ep{a:UInt8}{r:List UInt8}{n u:Nat}{e:Int}(h:¬a.toNat%32=31)(hz:bG r=(n,u,e))(he:e≠0):aH (a::r)=e:=by
 have:cW r=e:=by unfold cW;rw[hz]
 simp only[aH];rw[if_neg h,if_neg (by rw[this];exact he),this]
theorem get_short{a:UInt8}{r:List UInt8}{n u:Nat}(h:¬a.toNat%32=31)(hz:bG r=(n,u,0))(hl:r.length<u+n)(hb:r.length≤1099511627776):aH (a::r)=8:=by
 have e1:cW r=0:=by unfold cW;rw[hz]
 have e2:bD r=u:=by unfold bD;rw[hz]
 have e3:bY r=n:=by unfold bY;rw[hz]
 have hs:=fg r;simp only[aH];rw[if_neg h,if_pos e1,if_pos];rw[e2]at hs ⊢;rw[e3]at hs ⊢;rw[IntWalk.i64_in _ ⟨by omega,by omega⟩];omega
theorem gv_mk{a:UInt8}{r:List UInt8}{n u:Nat}(h:¬a.toNat%32=31)(hz:bG r=(n,u,0))(hl:u+n≤r.length)(hb:r.length≤1099511627776):gv (a::r)=.tuple [.agg [.int .u8 a.toNat,.str ((r.drop u).take n)],.str ((r.drop u).drop n),.int .i64 0]:=by
 have e1:cW r=0:=by unfold cW;rw[hz]
 have e2:bD r=u:=by unfold bD;rw[hz]
 have e3:bY r=n:=by unfold bY;rw[hz]
 have hs:=fg r;have hE:aH (a::r)=0:=by
  simp only[aH];rw[if_neg h,if_pos e1,if_neg];rw[e2]at hs ⊢;rw[e3]at hs ⊢;rw[IntWalk.i64_in _ ⟨by omega,by omega⟩];omega
 unfold gv bo ag bJ;rw[if_pos hE,if_pos hE,if_pos hE,hE];show V.tuple [.agg [.int .u8 a.toNat,.str ((r.drop (bD r)).take (bY r))],.str ((r.drop (bD r)).drop (bY r)),.int .i64 0]=_;rw[e2,e3]
def rgetT:List V→Option (List (Bool×(V×St)))
 |[.str s]=>some [(aN s,(gv s,[]))]
 |_=>none
theorem tl_ok{x y b1 b2 b3 b5 b6 b7 b8 b9:Bool}{F S G:Prop}(h1:b1=true)(h2:b2=true)(h3:b3=true)(hF:x=true→F)(hS:x=false→y=true→S)(hG:x=false→y=false→b5=true∧b6=true∧b7=true∧b8=true∧b9=true∧G):
  must b1 (must b2 (must b3 (bif x then F else bif y then S else must b5 (must b6 (must b7 (must b8 (must b9 G))))))):=by
 refine aa h1 (aa h2 (aa h3 (ab hF (fun hx=>ab (hS hx) (fun hy=>?_)))));obtain⟨g1,g2,g3,g4,g5,g6⟩:=hG hx hy;exact aa g1 (aa g2 (aa g3 (aa g4 (aa g5 g6))))
theorem lS{a:UInt8}{r:List UInt8}{n L:Nat}(h:¬a.toNat%32=31)(hb:r.length≤1099511627776)(hn:n≤65535)(hL:L=(lenB n).length)(hr:r.take L=lenB n)(hW:1+L+n≤r.length+1):
  V.tuple [.agg [.int .u8 a.toNat,.str (List.take (1+L+n-(1+L)) (List.drop (1+L) (a::r)))],.str (List.take ((a::r).length-(1+L+n)) (List.drop (1+L+n) (a::r))),.int .i64 0]=gv (a::r):=by
 have hz:bG r=(n,L,0):=by
  have:=lU n hn (r.drop L);rw[←hr,List.take_append_drop,hr,←hL]at this;exact this
 rw[gv_mk h hz (by omega) hb];have d1:List.drop (1+L) (a::r)=r.drop L:=by rw[Nat.add_comm 1 L];rfl
 have d2:List.drop (1+L+n) (a::r)=(r.drop L).drop n:=by rw[List.drop_drop,show 1+L+n=(L+n)+1 by omega];rfl
 have d3:List.take ((a::r).length-(1+L+n)) ((r.drop L).drop n)=(r.drop L).drop n:=List.take_of_length_le (by simp;omega);rw[d1,d2,d3,show 1+L+n-(1+L)=n by omega]
theorem iS{a:UInt8}{r:List UInt8}{n L:Nat}(h:¬a.toNat%32=31)(hb:r.length≤1099511627776)(hn:n≤65535)(hL:L=(lenB n).length)(hr:r.take L=lenB n)(hW:r.length+1<1+L+n):
  V.tuple [.agg [.int .u8 0,.str []],.str [],.int .i64 8]=gv (a::r):=by
 have hz:bG r=(n,L,0):=by
  have:=lU n hn (r.drop L);rw[←hr,List.take_append_drop,hr,←hL]at this;exact this
 exact cT (get_short h hz (by omega) hb) (by omega)
theorem kS{a:UInt8}:((a.toNat:Int).tmod 32==31)=true↔a.toNat%32=31:=by
 rw[Int.tmod_eq_emod_of_nonneg (by omega),beq_iff_eq];omega
theorem gR{a:UInt8}(h:((a.toNat:Int).tmod 32==31)=false):¬a.toNat%32=31:=fun e=>by
 rw[kS.2 e]at h;cases h
theorem rget_ok(args:List V)(l:List (Bool×(V×St)))(o:V×St)(h:rgetT args=some l)(ho:aC l=some o):FnSat Tryd.prog 60 args [] (Is o):=by
 unfold rgetT at h;split at h
 ·rename_i s;cases h;obtain⟨hk,rfl⟩:=aX ho;have hb:=of_decide_eq_true hk
  -- the forms that the loop is come to
  by_cases h9:∃a r,s=a::129::r
  ·obtain⟨a,r,rfl⟩:=h9;cases r with
   |nil=>
    refine au (lim:=3) (n:=10) ax kG rfl rfl ?_;rw[rget_a0];refine ab (fun h=>cT ?_ (by omega)) (fun h=>cT ?_ (by omega))
    ·simp only[aH];rw[if_pos ((kS (a:=a)).1 h)]
    ·exact ep (gR (a:=a) h) (n:=0) (u:=0) rfl (by omega)
   |cons c r=>
    have hc:=c.toNat_lt;have hL:=jL c.toNat;refine au (lim:=3) (n:=10) ax kG rfl rfl ?_;rw[rget_a1];unfold zs_7 zs_5 zs_4 zs_6;have g2:(a::129::c::r).getD 2 0=c:=rfl;have g0:(a::129::c::r).getD 0 0=a:=rfl;have w0:i64.wrap (0+i64.wrap (c.toNat:Int))=c.toNat:=by
     rw[IntWalk.i64_in (c.toNat:Int) ⟨by omega,by omega⟩,Int.zero_add,IntWalk.i64_in _ ⟨by omega,by omega⟩]
    have w1:i64.wrap (1+((lenB c.toNat).length:Int))=((1+(lenB c.toNat).length:Nat):Int):=by rw[IntWalk.i64_in _ ⟨by omega,by omega⟩];omega
    have w2:i64.wrap (((1+(lenB c.toNat).length:Nat):Int)+(c.toNat:Int))=((1+(lenB c.toNat).length+c.toNat:Nat):Int):=by rw[IntWalk.i64_in _ ⟨by omega,by omega⟩];omega
    simp only[g2,g0,w0,w1,w2,Int.toNat_natCast];refine ab (fun h=>cT ?_ (by omega)) (fun h=>?_)
    ·simp only[aH];rw[if_pos ((kS (a:=a)).1 h)]
    have h31:=gR (a:=a) h;have hsz:bG (129::c::r)=if c.toNat≤127 then(0,0,4)else(c.toNat,2,0):=rfl
    refine ab (fun h0=>cT ?_ (by omega)) (fun h0=>?_)
    ·have h0:c.toNat=0:=by have:=beq_iff_eq.1 h0;omega
     exact ep h31 (n:=0) (u:=0) (by rw[hsz,if_pos (by omega)]) (by omega)
    refine tl_ok (by simp only[Bool.and_eq_true,decide_eq_true_eq];omega) (decide_eq_true (by omega)) (by rw[Bool.and_eq_true];exact⟨Nat.ble_eq_true_of_le (by omega),Nat.ble_eq_true_of_le (by by_cases q:c.toNat≤127<;>simp[lenB]<;>(repeat' split)<;>simp<;>omega)⟩) (fun hf=>cT ?_ (by omega)) (fun hf hw=>?_) (fun hf hw=>?_)
    ·by_cases q:c.toNat≤127
     ·exact ep h31 (n:=0) (u:=0) (by rw[hsz,if_pos q]) (by omega)
     ·exfalso;have e:lenB c.toNat=[129,c]:=by unfold lenB;rw[if_neg (by omega),if_pos (by omega)];simp
      rw[e]at hf;simp at hf
    ·have hr:(129::c::r).take (lenB c.toNat).length=lenB c.toNat:=by
      have:=by simpa using hf
      simpa using this
     have hw:=of_decide_eq_true hw;exact iS h31 (by simp at hb ⊢;omega) (by omega) rfl hr (by simp at hw ⊢;omega)
    ·have hr:(129::c::r).take (lenB c.toNat).length=lenB c.toNat:=by
      have:=by simpa using hf
      simpa using this
     have hw:=of_decide_eq_false hw;refine⟨decide_eq_true (by omega),decide_eq_true (by omega),?_,decide_eq_true (by omega),?_,lS h31 (by simp at hb ⊢;omega) (by omega) rfl hr (by simp at hw ⊢;omega)⟩
     ·rw[Bool.and_eq_true];exact⟨Nat.ble_eq_true_of_le (by omega),Nat.ble_eq_true_of_le (by omega)⟩
     ·rw[Bool.and_eq_true];exact⟨Nat.ble_eq_true_of_le (by omega),Nat.ble_eq_true_of_le (by omega)⟩
  by_cases h10:∃a r,s=a::130::r
  ·obtain⟨a,r,rfl⟩:=h10
   match r,hb with
   |[],hb=>
    refine au (lim:=3) (n:=10) ax kG rfl rfl ?_;rw[rget_b0];refine ab (fun h=>cT ?_ (by omega)) (fun h=>cT ?_ (by omega))
    ·simp only[aH];rw[if_pos ((kS (a:=a)).1 h)]
    ·exact ep (gR (a:=a) h) (n:=0) (u:=0) rfl (by omega)
   |[c],hb=>
    have hc:=c.toNat_lt;refine au (lim:=3) (n:=10) ax kG rfl rfl ?_;rw[rget_b1];have g2:[a,130,c].getD 2 0=c:=rfl;have g0:[a,130,c].getD 0 0=a:=rfl;have w0:i64.wrap (0+i64.wrap (c.toNat:Int))=c.toNat:=by
     rw[IntWalk.i64_in (c.toNat:Int) ⟨by omega,by omega⟩,Int.zero_add,IntWalk.i64_in _ ⟨by omega,by omega⟩]
    rw[g2,g0,w0];have hsz:bG [130,c]=if c.toNat=0 then(0,0,4)else(0,0,8):=rfl
    refine ab (fun h=>cT ?_ (by omega)) (fun h=>ab (fun h0=>cT ?_ (by omega)) (fun h0=>cT ?_ (by omega)))
    ·simp only[aH];rw[if_pos ((kS (a:=a)).1 h)]
    ·exact ep (gR (a:=a) h) (n:=0) (u:=0) (by rw[hsz,if_pos (by have:=beq_iff_eq.1 h0;omega)]) (by omega)
    ·exact ep (gR (a:=a) h) (n:=0) (u:=0) (by rw[hsz,if_neg (by have:=beq_eq_false_iff_ne.1 h0;omega)]) (by omega)
   |c::d::r,hb=>
    have hc:=c.toNat_lt;have hd:=d.toNat_lt;have hL:=jL (c.toNat*256+d.toNat);refine au (lim:=3) (n:=10) ax kG rfl rfl ?_;rw[rget_b2];unfold zs_11 zs_9 iC zs_8;have g3:(a::130::c::d::r).getD 3 0=d:=rfl;have g2:(a::130::c::d::r).getD 2 0=c:=rfl;have g0:(a::130::c::d::r).getD 0 0=a:=rfl;have w0:i64.wrap (0+i64.wrap (c.toNat:Int))=c.toNat:=by
     rw[IntWalk.i64_in (c.toNat:Int) ⟨by omega,by omega⟩,Int.zero_add,IntWalk.i64_in _ ⟨by omega,by omega⟩]
    have w3:i64.wrap (i64.wrap ((c.toNat:Int)*256)+i64.wrap (d.toNat:Int))=((c.toNat*256+d.toNat:Nat):Int):=by
     rw[IntWalk.i64_in (d.toNat:Int) ⟨by omega,by omega⟩,IntWalk.i64_in ((c.toNat:Int)*256) ⟨by omega,by omega⟩,IntWalk.i64_in _ ⟨by omega,by omega⟩];omega
    simp only[g3,g2,g0,w0,w3];generalize hm:c.toNat*256+d.toNat=m at*
    have w1:i64.wrap (1+((lenB m).length:Int))=((1+(lenB m).length:Nat):Int):=by rw[IntWalk.i64_in _ ⟨by omega,by omega⟩];omega
    have w2:i64.wrap (((1+(lenB m).length:Nat):Int)+(m:Int))=((1+(lenB m).length+m:Nat):Int):=by rw[IntWalk.i64_in _ ⟨by omega,by omega⟩];omega
    simp only[w1,w2,Int.toNat_natCast];refine ab (fun h=>cT ?_ (by omega)) (fun h=>?_)
    ·simp only[aH];rw[if_pos ((kS (a:=a)).1 h)]
    have h31:=gR (a:=a) h;have hsz:bG (130::c::d::r)=if c.toNat=0 then(0,0,4)else(c.toNat*256+d.toNat,3,0):=rfl
    refine ab (fun h0=>cT ?_ (by omega)) (fun h0=>?_)
    ·exact ep h31 (n:=0) (u:=0) (by rw[hsz,if_pos (by have:=beq_iff_eq.1 h0;omega)]) (by omega)
    have h0:c.toNat≠0:=by have:=beq_eq_false_iff_ne.1 h0;omega
    refine ab (fun h1=>?_) (fun h1=>?_)
    ·exfalso;have:=beq_iff_eq.1 h1;omega
    have eL:lenB m=[130,c,d]:=by
     unfold lenB;rw[if_pos (by omega)];have e1:m/256=c.toNat:=by omega
     rw[e1];have e2:UInt8.ofNat m=d:=by
      apply UInt8.toNat_inj.1;simp only[UInt8.toNat_ofNat'];omega
     rw[e2];simp
    have hr:(130::c::d::r).take (lenB m).length=lenB m:=by rw[eL];rfl
    have eL3:(lenB m).length=3:=by rw[eL];rfl
    refine tl_ok (by simp only[Bool.and_eq_true,decide_eq_true_eq];omega) (decide_eq_true (by omega)) (by rw[Bool.and_eq_true];exact⟨Nat.ble_eq_true_of_le (by omega),Nat.ble_eq_true_of_le (by rw[eL3];simp)⟩) (fun hf=>?_) (fun hf hw=>?_) (fun hf hw=>?_)
    ·exfalso;rw[show 1+(lenB m).length-1=(lenB m).length by omega]at hf;have e:List.take (lenB m).length (List.drop 1 (a::130::c::d::r))=lenB m:=hr;rw[e]at hf;simp at hf
    ·have hw:=of_decide_eq_true hw;exact iS h31 (by simp at hb ⊢;omega) (by omega) rfl hr (by simp at hw ⊢;omega)
    ·have hw:=of_decide_eq_false hw;refine⟨decide_eq_true (by omega),decide_eq_true (by omega),?_,decide_eq_true (by omega),?_,lS h31 (by simp at hb ⊢;omega) (by omega) rfl hr (by simp at hw ⊢;omega)⟩
     ·rw[Bool.and_eq_true];exact⟨Nat.ble_eq_true_of_le (by omega),Nat.ble_eq_true_of_le (by omega)⟩
     ·rw[Bool.and_eq_true];exact⟨Nat.ble_eq_true_of_le (by omega),Nat.ble_eq_true_of_le (by omega)⟩
  refine au (lim:=3) (n:=10) ax RP2_ok rfl rfl ?_;rw[rget_g];unfold zs_3 zs_2 zs_1 zs_0
  match s,hb,h9,h10 with
  |[],_,_,_=>exact cT (s:=[]) rfl (by omega)
  |[a],_,_,_=>
   have ha:=a.toNat_lt;have b0:(([a]:List UInt8)==[])=false:=rfl;have b1:(true&&Nat.blt 0 [a].length)=true:=rfl;have b2:(([a].length:Int)==1)=true:=rfl;simp only[b0,b1,b2,cond_true,cond_false];refine ab (fun h=>cT ?_ (by omega)) (fun h=>cT ?_ (by omega))
   ·simp only[aH];rw[if_pos ((kS (a:=a)).1 h)]
   ·exact ep (gR (a:=a) h) (n:=0) (u:=0) rfl (by omega)
  |a::b::r,hb,h9,h10=>
   have hbb:=b.toNat_lt;have n9:b≠129:=fun e=>h9 ⟨a,r,by rw[e]⟩;have n10:b≠130:=fun e=>h10 ⟨a,r,by rw[e]⟩;have n9:b.toNat≠129:=fun e=>n9 (UInt8.toNat_inj.1 e);have n10:b.toNat≠130:=fun e=>n10 (UInt8.toNat_inj.1 e);have g1:(a::b::r).getD 1 0=b:=rfl;have g0:(a::b::r).getD 0 0=a:=rfl;have b0:((a::b::r)==[])=false:=rfl;have b1:(true&&Nat.blt 0 (a::b::r).length)=true:=rfl;have b2:(((a::b::r).length:Int)==1)=false:=beq_false_of_ne (by simp;omega);have b3:(true&&Nat.blt 1 (a::b::r).length)=true:=rfl;have w0:i64.wrap (b.toNat:Int)=b.toNat:=IntWalk.i64_in _ ⟨by omega,by omega⟩;simp only[g0,g1,b0,b1,b2,b3,w0,cond_true,cond_false,Int.toNat_natCast];refine ab (fun h=>cT ?_ (by omega)) (fun h=>?_)
   ·simp only[aH];rw[if_pos ((kS (a:=a)).1 h)]
   have h31:=gR (a:=a) h;have hsz:¬b.toNat≤127→bG (b::r)=(0,0,4):=fun q=>by
    cases r with
    |nil=>simp only[bG];rw[if_neg q,if_neg n9,if_neg n10]
    |cons c r=>cases r<;>(simp only[bG];rw[if_neg q,if_neg n9,if_neg n10])
   refine ab (fun h1=>cT ?_ (by omega)) (fun h1=>ab (fun h2=>cT ?_ (by omega)) (fun h2=>ab (fun h3=>?_) (fun h3=>?_)))
   ·exact ep h31 (hsz (by have:=beq_iff_eq.1 h1;omega)) (by omega)
   ·exact ep h31 (hsz (by have:=of_decide_eq_true h2;omega)) (by omega)
   ·exfalso;have:=of_decide_eq_true h3;have:=of_decide_eq_false h2;omega
   have hq:b.toNat≤127:=by
    have:=of_decide_eq_false h3;have:=beq_eq_false_iff_ne.1 h1;omega
   have eL:lenB b.toNat=[b]:=by unfold lenB;rw[if_neg (by omega),if_neg (by omega)];simp
   have w1:i64.wrap (1+((lenB b.toNat).length:Int))=((1+(lenB b.toNat).length:Nat):Int):=by rw[eL];rfl
   have w2:i64.wrap (((1+(lenB b.toNat).length:Nat):Int)+(b.toNat:Int))=((1+(lenB b.toNat).length+b.toNat:Nat):Int):=by rw[eL,IntWalk.i64_in _ ⟨by simp;omega,by simp;omega⟩];simp
   simp only[w1,w2,Int.toNat_natCast];have hr:(b::r).take (lenB b.toNat).length=lenB b.toNat:=by rw[eL];rfl
   have eL1:(lenB b.toNat).length=1:=by rw[eL];rfl
   refine tl_ok (by simp only[Bool.and_eq_true,decide_eq_true_eq];omega) (decide_eq_true (by omega)) (by rw[Bool.and_eq_true];exact⟨Nat.ble_eq_true_of_le (by omega),Nat.ble_eq_true_of_le (by rw[eL1];simp)⟩) (fun hf=>?_) (fun hf hw=>?_) (fun hf hw=>?_)
   ·exfalso;rw[show 1+(lenB b.toNat).length-1=(lenB b.toNat).length by omega]at hf;have e:List.take (lenB b.toNat).length (List.drop 1 (a::b::r))=lenB b.toNat:=hr;rw[e]at hf;simp at hf
   ·have hw:=of_decide_eq_true hw;exact iS h31 (by simp at hb ⊢;omega) (by omega) rfl hr (by simp at hw ⊢;omega)
   ·have hw:=of_decide_eq_false hw;refine⟨decide_eq_true (by omega),decide_eq_true (by omega),?_,decide_eq_true (by omega),?_,lS h31 (by simp at hb ⊢;omega) (by omega) rfl hr (by simp at hw ⊢;omega)⟩
    ·rw[Bool.and_eq_true];exact⟨Nat.ble_eq_true_of_le (by omega),Nat.ble_eq_true_of_le (by omega)⟩
    ·rw[Bool.and_eq_true];exact⟨Nat.ble_eq_true_of_le (by omega),Nat.ble_eq_true_of_le (by omega)⟩
 ·cases h
noncomputable def RA0:Tab:=⟨addT noT 60 rgetT,noL,aV 9⟩
theorem RA0_ok:TabOk3 Tryd.prog RA0:=⟨bm aF rget_ok,aG,ap 9⟩
theorem ra_round0(s:List UInt8)(R:Exit→List (Option V)→St→Prop):ah Tryd.prog RA0 9 10 (ac 9) 61 28 [0,2,3,4] [.str s,.nilSlice,.int .i64 0,.nilSlice] [] R=
  (
 bif decide ((↑s.length:Int)>0)then bif aN s then bif aH s !=0 then R .ret [some (.str s),some .nilSlice,some (.int i64 (aH s)),some
 .nilSlice] [.row [.int u8 (bo s),.str (ag s)] 83 2]else R .normal [some (.str (bJ s)),some .nilSlice,some (.int i64 0),some
 (.slice 2 0 1 false 0 0)] [.row [.int u8 (bo s),.str (ag s)] 83 2,.row [.int u8 (bo s),.str (ag s)] 83 2,.row [.int
 u8 (bo s),.str (ag s)] 83 2]else False else R (.exit 0) [some (.str s),some .nilSlice,some (.int i64 0),some .nilSlice] []):=by kernel_rfl
theorem ra_round1(s:List UInt8)(o:List V)(n:Nat)(R:Exit→List (Option V)→St→Prop):ah Tryd.prog RA0 9 10 (ac 9) 61 28 [0,2,3,4] [.str s,.nilSlice,.int .i64 0,.slice 0 0 n false 0 0] [.row o 83 2] R=
  (
 bif decide ((↑s.length:Int)>0)then bif aN s then bif aH s !=0 then R .ret [some (.str s),some .nilSlice,some (.int i64 (aH s)),some
 (.slice 0 0 n false 0 0)] [.row o 83 2,.row [.int u8 (bo s),.str (ag s)] 83 2]else bif (↑n:Int)==64 then R .ret [some (.str s),some
 .nilSlice,some (.int i64 40),some (.slice 0 0 n false 0 0)] [.row o 83 2,.row [.int u8 (bo s),.str (ag s)] 83 2]else bif
 o.length.beq (n*2)then bif (n+1).ble 9223372036854775807&&((n+1)*24).ble 140737488355328 then R .normal [some (.str (bJ s)),some .nilSlice,some
 (.int i64 0),some (.slice 3 0 (n+1) false 0 0)] [.dead,.row [.int u8 (bo s),.str (ag s)] 83 2,.row [.int u8 (bo s),
 .str (ag s)] 83 2,.row (o++[V.int u8 (bo s),V.str (ag s)]) 83 2]else False else False else False else R (.exit 0) [some (.str s),some
 .nilSlice,some (.int i64 0),some (.slice 0 0 n false 0 0)] [.row o 83 2]):=by kernel_rfl
def raSl:List IT→V
 |[]=>.nilSlice
 |h::t=>.slice 0 0 (h::t).length false 0 0
def raRw:List IT→St
 |[]=>[]
 |h::t=>[.row (aj (h::t)) 83 2]
def raV(x:AL):List V:=[.str x.s,.nilSlice,.int .i64 0,raSl x.acc]
def raJ(x:AL):St:=raRw x.acc
def kL(x:AL):Bool:=lj x&&aN x.s
noncomputable def raOut:Asks AL:=fun x K=>
 (qr x→K (.exit 0) [.str [],.nilSlice,.int .i64 0,.nilSlice] [])∧
 (∀o n,qq x o n→K (.exit 0) [.str [],.nilSlice,.int .i64 0,.slice 0 0 n false 0 0] [.row o 83 2])∧
 (∀e,alErr x e→(∀s',K .ret [.str s',.nilSlice,.int .i64 e,.nilSlice] [])∧∀s' n,K .ret [.str s',.nilSlice,.int .i64 e,.slice 0 0 n false 0 0] [.dead])
theorem mh(s:List UInt8)(e:Int)(acc:List IT)(b L:Nat)(hL:L=acc.length){st:St}(hb:st[b]?=some (.row (aj acc) 83 2)):
  Fits 0 [.str s,.nilSlice,.int .i64 e,.slice 0 0 acc.length false 0 0] [.row (aj acc) 83 2] [some (.str s),some .nilSlice,some (.int .i64 e),some (.slice b 0 L false 0 0)] st:=by
 subst hL;exact⟨[b],[.str s,.nilSlice,.int .i64 e,.slice b 0 acc.length false 0 0],rfl,rfl,FitsM.of ⟨.inr ⟨_,.inl (by simp only[renB,dI]),hb⟩,trivial⟩,by simp,fun i hi=>by omega⟩
theorem mj(s:List UInt8)(e:Int)(st:St):Fits 0 [.str s,.nilSlice,.int .i64 e,.nilSlice] [] [some (.str s),some .nilSlice,some (.int .i64 e),some .nilSlice] st:=
 ⟨[],[.str s,.nilSlice,.int .i64 e,.nilSlice],rfl,rfl,FitsM.of trivial,by simp,fun i hi=>by omega⟩
theorem ra_fitsD(s:List UInt8)(e:Int)(n:Nat)(st:St):Fits 0 [.str s,.nilSlice,.int .i64 e,.slice 0 0 n false 0 0] [.dead] [some (.str s),some .nilSlice,some (.int .i64 e),some (.slice 0 0 n false 0 0)] st:=
 ⟨[0],[.str s,.nilSlice,.int .i64 e,.slice 0 0 n false 0 0],rfl,rfl,FitsM.of ⟨.inl rfl,trivial⟩,by simp,fun i hi=>by omega⟩
theorem okLen_R{s:List UInt8}(h:aN s=true):aN (bJ s)=true:=by
 unfold aN at*
 have h:=of_decide_eq_true h;refine decide_eq_true ?_;unfold bJ;split
 ·simp;omega
 ·simp
theorem ra_round(x:AL)(hx:kL x=true):ah Tryd.prog RA0 9 10 (ac 9) 61 28 [0,2,3,4] (raV x) (raJ x) (av 0 kL raV raJ alMu raOut x):=by
 obtain⟨s,acc⟩:=x;unfold kL at hx;rw[Bool.and_eq_true]at hx;have p1:acc.length≤64:=of_decide_eq_true hx.1;have p2:aN s=true:=hx.2;have again:s≠[]→aH s=0→acc.length≠64→∀K,raOut ⟨s,acc⟩ K→raOut ⟨bJ s,acc++[(bo s,ag s)]⟩ K:=by
  intro hs h0 ha K hK;have hg:=alF_step hs h0 ha;refine⟨fun he=>hK.1 (hg.trans he),fun o n he=>hK.2.1 o n ?_,fun e he=>hK.2.2 e ⟨he.1,hg.trans he.2⟩⟩;obtain⟨h,t,e1,e2,e3⟩:=he;exact⟨h,t,e1,e2,hg.trans e3⟩
 have pre2:acc.length≠64→kL ⟨bJ s,acc++[(bo s,ag s)]⟩=true:=by
  intro h;unfold kL;rw[Bool.and_eq_true];refine⟨?_,okLen_R p2⟩;simp only[lj,decide_eq_true_eq,List.length_append,List.length_cons,List.length_nil];omega
 have pos:s≠[]→decide ((s.length:Int)>0)=true:=fun hs=>decide_eq_true (by have:=List.length_pos_iff.2 hs;omega);cases acc with
 |nil=>
  show ah Tryd.prog RA0 9 10 (ac 9) 61 28 [0,2,3,4] [.str s,.nilSlice,.int .i64 0,.nilSlice] [] _;rw[ra_round0,p2,cond_true];by_cases hs:s=[]
  ·subst hs;exact⟨_,_,fun K hK=>hK.1 rfl,mj [] 0 _⟩
  ·rw[pos hs,cond_true];by_cases h0:aH s=0
   ·have e3:(aH s !=0)=false:=by simp[h0]
    rw[e3,cond_false];refine⟨⟨bJ s,[]++[(bo s,ag s)]⟩,pre2 (by simp),?_,eH hs,again hs h0 (by simp)⟩;exact mh (bJ s) 0 [(bo s,ag s)] 2 1 rfl rfl
   ·have e3:(aH s !=0)=true:=by simp[h0]
    rw[e3,cond_true];exact⟨_,_,fun K hK=>(hK.2.2 _ ⟨h0,lH hs h0 []⟩).1 s,mj s _ _⟩
 |cons h t=>
  show ah Tryd.prog RA0 9 10 (ac 9) 61 28 [0,2,3,4] [.str s,.nilSlice,.int .i64 0,.slice 0 0 (h::t).length false 0 0] [.row (aj (h::t)) 83 2] _;rw[ra_round1,p2,cond_true];by_cases hs:s=[]
  ·subst hs;exact⟨_,_,fun K hK=>hK.2.1 _ _ ⟨h,t,rfl,rfl,rfl⟩,mh [] 0 (h::t) 0 _ rfl rfl⟩
  ·rw[pos hs,cond_true];by_cases h0:aH s=0
   ·have e3:(aH s !=0)=false:=by simp[h0]
    rw[e3,cond_false];by_cases ha:(h::t).length=64
    ·have e4:(((h::t).length:Int)==64)=true:=by rw[ha];rfl
     rw[e4,cond_true];exact⟨_,_,fun K hK=>(hK.2.2 40 ⟨by omega,alF_full hs h0 ha⟩).2 s _,ra_fitsD s _ _ _⟩
    ·have e4:(((h::t).length:Int)==64)=false:=by
      cases hb:(((h::t).length:Int)==64)with
      |false=>rfl
      |true=>exact absurd (by have:=beq_iff_eq.1 hb;omega) ha
     rw[e4,cond_false];have e5:(aj (h::t)).length.beq ((h::t).length*2)=true:=by rw[dl];exact Nat.beq_refl _
     have e6:(((h::t).length+1).ble 9223372036854775807&&(((h::t).length+1)*24).ble 140737488355328)=true:=by
      rw[Bool.and_eq_true];exact⟨Nat.ble_eq_true_of_le (by omega),Nat.ble_eq_true_of_le (by omega)⟩
     rw[e5,e6,cond_true,cond_true];have e7:aj (h::t)++[V.int .u8 (bo s),V.str (ag s)]=aj (h::(t++[(bo s,ag s)])):=jn (h::t) (bo s,ag s);rw[e7];refine⟨⟨bJ s,(h::t)++[(bo s,ag s)]⟩,pre2 ha,?_,eH hs,again hs h0 ha⟩;exact mh (bJ s) 0 (h::(t++[(bo s,ag s)])) 3 _ (by simp) rfl
   ·have e3:(aH s !=0)=true:=by simp[h0]
    rw[e3,cond_true];exact⟨_,_,fun K hK=>(hK.2.2 _ ⟨h0,lH hs h0 (h::t)⟩).2 s _,ra_fitsD s _ _ _⟩
def raDec:List (Option V)→St→Option AL
 |[some (.str s),some .nilSlice,some (.int .i64 0),some .nilSlice],_=>some ⟨s,[]⟩
 |_,_=>none
noncomputable def lkRA:Nat→Trans→Trans:=aU 28 (bp 0 (szOf Tryd.prog 61) [0,2,3,4] raDec kL raV raJ raOut) (ac 9)
theorem lkRA_ok:aE Tryd.prog 0 lkRA 61:=by
 unfold lkRA;exact bt (aR 9 0 61) (by kernel_rfl) fun f st Q h=>aW (P:=Tryd.prog) (T:=RA0) (k:=0) (lim:=9) (n:=10) (g:=61) (p0:=28) (lk:=ac 9) ax RA0_ok (aQ 9 _ _) alMu ra_round h
noncomputable def RA1:Tab:=⟨noT,noL,cG (aV 9) 61 0 lkRA⟩
theorem RA1_ok:TabOk3 Tryd.prog RA1:=⟨aF,aG,bn (ap 9) lkRA_ok⟩
theorem rall_tree(s:List UInt8)(R:V→St→Prop):runM Tryd.prog RA1 9 10 61 [.str s] R=
  (
 Fits 0 [.str s,.nilSlice,.int i64 0,.nilSlice] [] [some (.str s),some .nilSlice,some (.int i64 0),some .nilSlice] []∧bif kL {s:=s,acc:=[]}
 then(qr {s:=s,acc:=[]}→R (.tuple [.nilSlice,.int i64 0]) [])∧(∀(o:List V) (n:Nat),qq {s:=s,acc:=[]} o n→R (.tuple [.slice
 0 0 n false 0 0,.int i64 0]) [.row o 83 2])∧∀(e:Int),alErr {s:=s,acc:=[]} e→(∀(s':List UInt8),R (.tuple [.nilSlice,.int i64
 e]) [])∧∀(s':List UInt8) (n:Nat),R (.tuple [.nilSlice,.int i64 e]) [.dead]else False):=by kernel_rfl
def gJ(s:List UInt8):V×St:=match allI s with
 |[]=>(.tuple [.nilSlice,.int .i64 (allE s)],[])
 |h::t=>(.tuple [.slice 0 0 (h::t).length false 0 0,.int .i64 (allE s)],[.row (aj (h::t)) 83 2])
theorem rall_sat(s:List UInt8)(hk:aN s=true):FnSat Tryd.prog 61 [.str s] [] (Is (gJ s)):=by
 refine FnSat.fits (gc (lim:=9) (n:=10) ax RA1_ok ?_);rw[rall_tree];have nilRes:∀(e:Int) (st:St),allI s=[]→allE s=e→Fits 0 [(gJ s).1] (gJ s).2 [some (.tuple [.nilSlice,.int .i64 e])] st:=by
  intro e st h1 h2;have e1:gJ s=(.tuple [.nilSlice,.int .i64 e],[]):=by unfold gJ;rw[h1,h2]
  rw[e1];exact⟨[],[.tuple [.nilSlice,.int .i64 e]],rfl,rfl,FitsM.of trivial,by simp,fun i hi=>by omega⟩
 refine⟨mj s 0 _,aa (by unfold kL;rw[hk];rfl) ⟨?_,?_,?_⟩⟩
 ·intro h;have h:alF s.length s []=([],0):=h;exact nilRes 0 _ (by unfold allI;rw[h]) (by unfold allE;rw[h])
 ·rintro o n ⟨h0,t,rfl,rfl,h⟩;have h:alF s.length s []=(h0::t,0):=h;have h1:allI s=h0::t:=by unfold allI;rw[h]
  have h2:allE s=0:=by unfold allE;rw[h]
  have e1:gJ s=(.tuple [.slice 0 0 (h0::t).length false 0 0,.int .i64 0],[.row (aj (h0::t)) 83 2]):=by unfold gJ;rw[h1,h2]
  show Fits 0 [(gJ s).1] (gJ s).2 _ _;rw[e1];exact⟨[0],[.tuple [.slice 0 0 (h0::t).length false 0 0,.int .i64 0]],rfl,rfl,FitsM.of ⟨.inr ⟨.row (aj (h0::t)) 83 2,.inl (by simp only[renB,dI]),rfl⟩,trivial⟩,by simp,fun i hi=>by omega⟩
 ·rintro e ⟨_,h⟩;have h:alF s.length s []=([],e):=h;have:=fun st=>nilRes e st (by unfold allI;rw[h]) (by unfold allE;rw[h]);exact⟨fun _=>this _,fun _ _=>this _⟩
def rallG(AE:List UInt8→Int)(AN:List UInt8→Nat)(AC:List UInt8→List V):List V→Option (List (Bool×(V×St)))
 |[.str s]=>some [(aN s&&Nat.beq (AN s) 0,(.tuple [.nilSlice,.int .i64 (AE s)],[])),(aN s,(.tuple [.slice 0 0 (AN s) false 0 0,.int .i64 (AE s)],[.row (AC s) 83 2]))]
 |_=>none
theorem rallG_ok(args:List V)(l:List (Bool×(V×St)))(o:V×St)(h:rallG allE allN allC args=some l)(ho:aC l=some o):FnSat Tryd.prog 61 args [] (Is o):=by
 unfold rallG at h;split at h
 ·rename_i s;cases h;cases hk:aN s with
  |false=>rw[hk]at ho;simp[aC]at ho
  |true=>
  rw[hk,Bool.true_and]at ho;have:o=gJ s:=by
   unfold gJ;unfold allN allC at ho;cases hI:allI s with
   |nil=>
    rw[hI]at ho;have e:Nat.beq ([]:List IT).length 0=true:=rfl;simp only[aC,e,cond_true,Option.some.injEq]at ho;exact ho.symm
   |cons a t=>
    rw[hI]at ho;have e:Nat.beq (a::t).length 0=false:=rfl;simp only[aC,e,cond_true,cond_false,Option.some.injEq]at ho;exact ho.symm
  rw[this];exact rall_sat s hk
 ·cases h
def starP(s:List UInt8):Bool:=s.take 2==[42,46]
def labF:Nat→List UInt8→List (List UInt8)
 |0,_=>[]
 |k+1,s=>bif cutM s then cutB s::labF k (cutR s)else[cutB s]
def du(s:List UInt8):List (List UInt8):=labF (s.length+1) s
structure LS where
 s:List UInt8
 o:List (List UInt8)
def lsN(s:List UInt8)(o:List (List UInt8)):Nat:=(o++du s).length
def lsC(s:List UInt8)(o:List (List UInt8)):List V:=strs (o++du s)
noncomputable def RB0:Tab:=⟨noT,noL,aV 9⟩
theorem qv:TabOk3 Tryd.prog RB0:=⟨aF,aG,ap 9⟩
theorem dg_tree(b:Int)(R:V→Prop):runW Tryd.prog RB0 9 10 140 [.int .u8 b] R=
  (
 bif decide (b≥48)then R (.bool (decide (b≤57)))else R (.bool false)):=by kernel_rfl
theorem lt_tree(b:Int)(R:V→Prop):runW Tryd.prog RB0 9 10 141 [.int .u8 b] R=
  (
 bif decide (b≥97)then R (.bool (decide (b≤122)))else R (.bool false)):=by kernel_rfl
def dgI(b:Int):Bool:=decide (48≤b)&&decide (b≤57)
def ltI(b:Int):Bool:=decide (97≤b)&&decide (b≤122)
def dgP:List V→Option V
 |[.int .u8 b]=>some (.bool (dgI b))
 |_=>none
def ltP:List V→Option V
 |[.int .u8 b]=>some (.bool (ltI b))
 |_=>none
theorem dg_ok(args:List V)(v:V)(h:dgP args=some v):FnSat Tryd.prog 140 args [] (Is (v,[])):=by
 unfold dgP at h;split at h
 ·rename_i b;cases h;refine au (lim:=9) (n:=10) ax qv rfl rfl ?_;rw[dg_tree];unfold dgI;refine ab (fun h=>?_) (fun h=>?_)
  ·have h:=of_decide_eq_true h;rw[decide_eq_true (show 48≤b by omega),Bool.true_and]
  ·have h:=of_decide_eq_false h;rw[decide_eq_false (show ¬48≤b by omega),Bool.false_and]
 ·cases h
theorem lt_ok(args:List V)(v:V)(h:ltP args=some v):FnSat Tryd.prog 141 args [] (Is (v,[])):=by
 unfold ltP at h;split at h
 ·rename_i b;cases h;refine au (lim:=9) (n:=10) ax qv rfl rfl ?_;rw[lt_tree];unfold ltI;refine ab (fun h=>?_) (fun h=>?_)
  ·have h:=of_decide_eq_true h;rw[decide_eq_true (show 97≤b by omega),Bool.true_and]
  ·have h:=of_decide_eq_false h;rw[decide_eq_false (show ¬97≤b by omega),Bool.false_and]
 ·cases h
noncomputable def RB1:Tab:=⟨addP (addP noT 140 dgP) 141 ltP,noL,aV 9⟩
theorem RB1_ok:TabOk3 Tryd.prog RB1:=⟨aS (aS aF dg_ok) lt_ok,aG,ap 9⟩
theorem rl_round(s:List UInt8)(i:Int)(R:Exit→List (Option V)→St→Prop):ah Tryd.prog RB1 9 10 (ac 9) 120 58 [0,2,3] [.str s,.bool false,.int .i64 i] [] R=
  (
 bif decide (i<(↑s.length:Int))then bif decide (0≤i)&&i.toNat.blt s.length then bif !dgI (↑(s.getD i.toNat 0).toNat:Int)then bif decide (0≤i)&&i.toNat.blt
 s.length then bif !ltI (↑(s.getD i.toNat 0).toNat:Int)then bif decide (0≤i)&&i.toNat.blt s.length then bif (↑(s.getD i.toNat 0).toNat:Int)!=45 then R .ret
 [some (.str s),some (.bool false),some (.int i64 i)] []else R .normal [some (.str s),some (.bool false),some (.int i64 (i64.wrap (i
 +1)))] []else False else R .normal [some (.str s),some (.bool false),some (.int i64 (i64.wrap (i+1)))] []else False else R .normal [some
 (.str s),some (.bool false),some (.int i64 (i64.wrap (i+1)))] []else False else R (.exit 0) [some (.str s),some (.bool false),some (.int
 i64 i)] []):=by kernel_rfl
theorem rdg_round(s:List UInt8)(i:Int)(R:Exit→List (Option V)→St→Prop):ah Tryd.prog RB1 9 10 (ac 9) 119 26 [0,2,3] [.str s,.bool false,.int .i64 i] [] R=
  (
 bif decide (i<(↑s.length:Int))then bif decide (0≤i)&&i.toNat.blt s.length then bif !dgI (↑(s.getD i.toNat 0).toNat:Int)then R .ret [some (.str s),some
 (.bool false),some (.int i64 i)] []else R .normal [some (.str s),some (.bool false),some (.int i64 (i64.wrap (i+1)))] []else False
 else R (.exit 0) [some (.str s),some (.bool false),some (.int i64 i)] []):=by kernel_rfl
noncomputable def zw_0(i:Int):=V.int i64 (i64.wrap (i+1))
theorem rc_round0(s:List UInt8)(j i:Int)(R:Exit→List (Option V)→St→Prop):ah Tryd.prog RB0 9 10 (ac 9) 103 122 [0,2,3,4,5] [.str s,.nilSlice,.nilSlice,.int .i64 j,.int .i64 i] [] R=
 (
 bif decide (i≤(↑s.length:Int))then bif i==(↑s.length:Int)then bif decide (0≤j)then bif decide (0≤i)then bif j.toNat.ble i.toNat&&i.toNat.ble
 s.length then R .normal [some (.str s),some .nilSlice,some (.slice 1 0 1 false 0 0),some (zw_0 i),some (zw_0 i)] [.row [.str (List.take (i.toNat-
 j.toNat) (List.drop j.toNat s))] 9 1,.row [.str (List.take (i.toNat-j.toNat) (List.drop j.toNat s))] 9 1]else False else False else False else bif decide
 (0≤i)&&i.toNat.blt s.length then bif (↑(s.getD i.toNat 0).toNat:Int)==46 then bif decide (0≤j)then bif decide (0≤i)then bif j.toNat.ble i.toNat&&
 i.toNat.ble s.length then R .normal [some (.str s),some .nilSlice,some (.slice 1 0 1 false 0 0),some (zw_0 i),some (zw_0 i)] [.row [.str
 (List.take (i.toNat-j.toNat) (List.drop j.toNat s))] 9 1,.row [.str (List.take (i.toNat-j.toNat) (List.drop j.toNat s))] 9 1]else False else False else
 False else R .normal [some (.str s),some .nilSlice,some .nilSlice,some (.int i64 j),some (zw_0 i)] []else False else R (.exit 0) [some
 (.str s),some .nilSlice,some .nilSlice,some (.int i64 j),some (.int i64 i)] []):=by kernel_rfl
noncomputable def zw_1(i:Int):=V.int i64 (i64.wrap (i+1))
theorem rc_round1(s:List UInt8)(o:List V)(n:Nat)(j i:Int)(R:Exit→List (Option V)→St→Prop):ah Tryd.prog RB0 9 10 (ac 9) 103 122 [0,2,3,4,5] [.str s,.nilSlice,.slice 0 0 n false 0 0,.int .i64 j,.int .i64 i] [.row o 9 1] R=
 (
 bif decide (i≤(↑s.length:Int))then bif i==(↑s.length:Int)then bif decide (0≤j)then bif decide (0≤i)then bif j.toNat.ble i.toNat&&i.toNat.ble
 s.length then bif o.length.beq (n*1)then bif (n+1).ble 9223372036854775807&&((n+1)*16).ble 140737488355328 then R .normal [some (.str s),some
 .nilSlice,some (.slice 2 0 (n+1) false 0 0),some (zw_1 i),some (zw_1 i)] [.dead,.row [.str (List.take (i.toNat-j.toNat) (List.drop j.toNat s))]
 9 1,.row (o++[V.str (List.take (i.toNat-j.toNat) (List.drop j.toNat s))]) 9 1]else False else False else False else False else False else bif decide (0
 ≤i)&&i.toNat.blt s.length then bif (↑(s.getD i.toNat 0).toNat:Int)==46 then bif decide (0≤j)then bif decide (0≤i)then bif j.toNat.ble i.toNat&&
 i.toNat.ble s.length then bif o.length.beq (n*1)then bif (n+1).ble 9223372036854775807&&((n+1)*16).ble 140737488355328 then R .normal [some (.str
 s),some .nilSlice,some (.slice 2 0 (n+1) false 0 0),some (zw_1 i),some (zw_1 i)] [.dead,.row [.str (List.take (i.toNat-j.toNat) (List.drop
 j.toNat s))] 9 1,.row (o++[V.str (List.take (i.toNat-j.toNat) (List.drop j.toNat s))]) 9 1]else False else False else False else False else False else R
 .normal [some (.str s),some .nilSlice,some (.slice 0 0 n false 0 0),some (.int i64 j),some (zw_1 i)] [.row o 9 1]else False else R
 (.exit 0) [some (.str s),some .nilSlice,some (.slice 0 0 n false 0 0),some (.int i64 j),some (.int i64 i)] [.row o 9 1]):=by kernel_rfl
theorem kind_lt(c:UInt8):Nat.blt (c9 c) 2=(dgI c.toNat||(ltI c.toNat||((c.toNat:Int)==45))):=by
 unfold c9 dgI ltI;rw[Bool.eq_iff_iff];simp only[Nat.blt_eq,Bool.or_eq_true,Bool.and_eq_true,decide_eq_true_eq,beq_iff_eq];split
 ·constructor<;>intro _<;>omega
 ·split
  ·constructor<;>intro _<;>omega
  ·constructor<;>intro _<;>omega
theorem kind_dg(c:UInt8):Nat.beq (c9 c) 0=dgI c.toNat:=by
 unfold c9 dgI;rw[Bool.eq_iff_iff];simp only[Nat.beq_eq,Bool.and_eq_true,decide_eq_true_eq];split
 ·constructor<;>intro _<;>omega
 ·split
  ·constructor<;>intro _<;>omega
  ·constructor<;>intro _<;>omega
structure RL where
 s:List UInt8
 i:Nat
def rlV(x:RL):List V:=[.str x.s,.bool false,.int .i64 x.i]
def rlJ(_:RL):St:=[]
def eQ(x:RL):Bool:=Nat.ble x.i x.s.length&&aN x.s
def rlMu(x:RL):Nat:=x.s.length-x.i
def rlDec:List (Option V)→St→Option RL
 |[some (.str s),some (.bool false),some (.int .i64 0)],_=>some ⟨s,0⟩
 |_,_=>none
def gK(g:Bool)(s:List UInt8)(K:Exit→List V→St→Prop):Prop:=
 bif g then K (.exit 0) [.str s,.bool false,.int .i64 s.length] []else ∀j:Int,K .ret [.str s,.bool false,.int .i64 j] []
def rlOut:Asks RL:=fun x K=>gK (cO (x.s.drop x.i)) x.s K
def rdgOut:Asks RL:=fun x K=>gK (bN (x.s.drop x.i)) x.s K
theorem rl_roundOk(x:RL)(hx:eQ x=true):ah Tryd.prog RB1 9 10 (ac 9) 120 58 [0,2,3] (rlV x) (rlJ x) (av 0 eQ rlV rlJ rlMu rlOut x):=by
 obtain⟨s,i⟩:=x;unfold eQ at hx;rw[Bool.and_eq_true]at hx;have p1:i≤s.length:=Nat.le_of_ble_eq_true hx.1;have p2:s.length≤1099511627776:=of_decide_eq_true hx.2;show ah Tryd.prog RB1 9 10 (ac 9) 120 58 [0,2,3] [.str s,.bool false,.int .i64 i] [] _;rw[rl_round];cases hd:s.drop i with
 |nil=>
  have hi:=fu hd p1;rw[decide_eq_false (show ¬((i:Int)<(s.length:Int)) by omega),cond_false];refine⟨[.str s,.bool false,.int .i64 i],[],fun K hK=>?_,bB _ rfl _ rfl _⟩;have hK:gK (cO (s.drop i)) s K:=hK;rw[hd]at hK;rw[hi];exact hK
 |cons c r=>
  obtain⟨e1,e2,e3⟩:=dV hd;have w1:i64.wrap ((i:Int)+1)=((i+1:Nat):Int):=by rw[IntWalk.i64_in _ ⟨by omega,by omega⟩];omega
  have d1:(decide (0≤(i:Int))&&i.blt s.length)=true:=by rw[decide_eq_true (show(0:Int)≤i by omega),Bool.true_and];exact Nat.ble_eq_true_of_le (by omega)
  rw[decide_eq_true (show((i:Int)<(s.length:Int)) by omega),cond_true];simp only[Int.toNat_natCast,d1,e1,w1,cond_true];have next:Nat.blt (c9 c) 2=true→av 0 eQ rlV rlJ rlMu rlOut ⟨s,i⟩ .normal [some (.str s),some (.bool false),some (.int .i64 ((i+1:Nat):Int))] []:=fun hk=>by
   refine⟨⟨s,i+1⟩,?_,bB _ rfl _ rfl _,by simp only[rlMu];omega,fun K hK=>?_⟩
   ·unfold eQ;rw[hx.2,Bool.and_true];exact Nat.ble_eq_true_of_le e3
   ·have hK:gK (cO (s.drop i)) s K:=hK;have g:cO (c::r)=cO r:=by show(Nat.blt (c9 c) 2&&cO r)=cO r;rw[hk];rfl
    rw[hd,g,←e2]at hK;exact hK
  have bad:Nat.blt (c9 c) 2=false→av 0 eQ rlV rlJ rlMu rlOut ⟨s,i⟩ .ret [some (.str s),some (.bool false),some (.int .i64 (i:Int))] []:=fun hk=>by
   refine⟨[.str s,.bool false,.int .i64 i],[],fun K hK=>?_,bB _ rfl _ rfl _⟩;have hK:gK (cO (s.drop i)) s K:=hK;have g:cO (c::r)=false:=by show(Nat.blt (c9 c) 2&&cO r)=false;rw[hk];rfl
   rw[hd,g]at hK;exact hK i
  rw[kind_lt]at next bad
  refine ab (fun h1=>?_) (fun h1=>?_)
  ·refine ab (fun h2=>ab (fun h3=>?_) (fun h3=>?_)) (fun h2=>?_)
   ·have h1:dgI c.toNat=false:=by simpa using h1
    have h2:ltI c.toNat=false:=by simpa using h2
    exact bad (by rw[h1,h2];simpa[bne]using h3)
   ·exact next (by have:((c.toNat:Int)==45)=true:=by simpa[bne]using h3
                   rw[this];simp)
   ·have h2:ltI c.toNat=true:=by simpa using h2
    exact next (by rw[h2];simp)
  ·have h1:dgI c.toNat=true:=by simpa using h1
   exact next (by rw[h1];rfl)
theorem rdg_roundOk(x:RL)(hx:eQ x=true):ah Tryd.prog RB1 9 10 (ac 9) 119 26 [0,2,3] (rlV x) (rlJ x) (av 0 eQ rlV rlJ rlMu rdgOut x):=by
 obtain⟨s,i⟩:=x;unfold eQ at hx;rw[Bool.and_eq_true]at hx;have p1:i≤s.length:=Nat.le_of_ble_eq_true hx.1;have p2:s.length≤1099511627776:=of_decide_eq_true hx.2;show ah Tryd.prog RB1 9 10 (ac 9) 119 26 [0,2,3] [.str s,.bool false,.int .i64 i] [] _;rw[rdg_round];cases hd:s.drop i with
 |nil=>
  have hi:=fu hd p1;rw[decide_eq_false (show ¬((i:Int)<(s.length:Int)) by omega),cond_false];refine⟨[.str s,.bool false,.int .i64 i],[],fun K hK=>?_,bB _ rfl _ rfl _⟩;have hK:gK (bN (s.drop i)) s K:=hK;rw[hd]at hK;rw[hi];exact hK
 |cons c r=>
  obtain⟨e1,e2,e3⟩:=dV hd;have w1:i64.wrap ((i:Int)+1)=((i+1:Nat):Int):=by rw[IntWalk.i64_in _ ⟨by omega,by omega⟩];omega
  have d1:(decide (0≤(i:Int))&&i.blt s.length)=true:=by rw[decide_eq_true (show(0:Int)≤i by omega),Bool.true_and];exact Nat.ble_eq_true_of_le (by omega)
  rw[decide_eq_true (show((i:Int)<(s.length:Int)) by omega),cond_true];simp only[Int.toNat_natCast,d1,e1,w1,cond_true];refine ab (fun h1=>?_) (fun h1=>?_)
  ·have h1:dgI c.toNat=false:=by simpa using h1
   refine⟨[.str s,.bool false,.int .i64 i],[],fun K hK=>?_,bB _ rfl _ rfl _⟩;have hK:gK (bN (s.drop i)) s K:=hK;have g:bN (c::r)=false:=by show(Nat.beq (c9 c) 0&&bN r)=false;rw[kind_dg,h1];rfl
   rw[hd,g]at hK;exact hK i
  ·have h1:dgI c.toNat=true:=by simpa using h1
   refine⟨⟨s,i+1⟩,?_,bB _ rfl _ rfl _,by simp only[rlMu];omega,fun K hK=>?_⟩
   ·unfold eQ;rw[hx.2,Bool.and_true];exact Nat.ble_eq_true_of_le e3
   ·have hK:gK (bN (s.drop i)) s K:=hK;have g:bN (c::r)=bN r:=by show(Nat.beq (c9 c) 0&&bN r)=bN r;rw[kind_dg,h1];rfl
    rw[hd,g,←e2]at hK;exact hK
noncomputable def lkRL:Nat→Trans→Trans:=aU 58 (bp 0 (szOf Tryd.prog 120) [0,2,3] rlDec eQ rlV rlJ rlOut) (ac 9)
theorem lkRL_ok:aE Tryd.prog 0 lkRL 120:=by
 unfold lkRL;exact bt (aR 9 0 120) (by kernel_rfl) fun f st Q h=>aW (P:=Tryd.prog) (T:=RB1) (k:=0) (lim:=9) (n:=10) (g:=120) (p0:=58) (lk:=ac 9) ax RB1_ok (aQ 9 _ _) rlMu rl_roundOk h
noncomputable def lkRD:Nat→Trans→Trans:=aU 26 (bp 0 (szOf Tryd.prog 119) [0,2,3] rlDec eQ rlV rlJ rdgOut) (ac 9)
theorem lkRD_ok:aE Tryd.prog 0 lkRD 119:=by
 unfold lkRD;exact bt (aR 9 0 119) (by kernel_rfl) fun f st Q h=>aW (P:=Tryd.prog) (T:=RB1) (k:=0) (lim:=9) (n:=10) (g:=119) (p0:=26) (lk:=ac 9) ax RB1_ok (aQ 9 _ _) rlMu rdg_roundOk h
noncomputable def RB2:Tab:=⟨noT,noL,cG (cG (aV 9) 120 0 lkRL) 119 0 lkRD⟩
theorem RB2_ok:TabOk3 Tryd.prog RB2:=⟨aF,aG,bn (bn (ap 9) lkRL_ok) lkRD_ok⟩
theorem rlab_tree(s:List UInt8)(R:V→Prop):runW Tryd.prog RB2 9 10 120 [.str s] R=
  (
 bif (↑s.length:Int)==0 then R (.bool false)else bif decide ((↑s.length:Int)>63)then R (.bool false)else bif true&&Nat.blt 0 s.length then bif (↑(s.getD 0
 0).toNat:Int)==45 then R (.bool false)else bif decide (0≤i64.wrap ((↑s.length:Int)-1))&&(i64.wrap ((↑s.length:Int)-1)).toNat.blt
 s.length then bif (↑(s.getD (i64.wrap ((↑s.length:Int)-1)).toNat 0).toNat:Int)==45 then R (.bool false)else Fits 0 [.str s,.bool false,.int
 i64 0] [] [some (.str s),some (.bool false),some (.int i64 0)] []∧bif eQ {s:=s,i:=0}then bif cO (List.drop 0 s)then R (.bool true)
 else ∀(j:Int),R (.bool false)else False else False else False):=by kernel_rfl
theorem rdig_tree(s:List UInt8)(R:V→Prop):runW Tryd.prog RB2 9 10 119 [.str s] R=
  (
 Fits 0 [.str s,.bool false,.int i64 0] [] [some (.str s),some (.bool false),some (.int i64 0)] []∧bif eQ {s:=s,i:=0}then bif bN
 (List.drop 0 s)then R (.bool true)else ∀(j:Int),R (.bool false)else False):=by kernel_rfl
theorem rlab_ok(args:List V)(v:V)(h:(match args with|[.str s]=>some (V.bool (bP s))|_=>none)=some v):FnSat Tryd.prog 120 args [] (Is (v,[])):=by
 split at h
 ·rename_i s;cases h;refine au (lim:=9) (n:=10) ax RB2_ok rfl rfl ?_;rw[rlab_tree];have bad:∀{b:Bool},bP s=b→V.bool b=V.bool (bP s):=fun h=>by rw[h]
  refine ab (fun h=>bad ?_) (fun h=>ab (fun h1=>bad ?_) (fun h1=>?_))
  ·have h:s.length=0:=by have:=beq_iff_eq.1 h;omega
   unfold bP;rw[decide_eq_false (by omega)];rfl
  ·have h1:=of_decide_eq_true h1;unfold bP;rw[decide_eq_false (show ¬s.length≤63 by omega),Bool.false_and,Bool.and_false]
  have h:1≤s.length:=by have:=beq_eq_false_iff_ne.1 h;omega
  have h1:=of_decide_eq_false h1;have h1:s.length≤63:=by omega
  have w:i64.wrap ((s.length:Int)-1)=((s.length-1:Nat):Int):=by rw[IntWalk.i64_in _ ⟨by omega,by omega⟩];omega
  rw[w,Int.toNat_natCast];have nt:∀{c:UInt8} {b:Bool},((c.toNat:Int)==45)=b→(c.toNat==45)=b:=fun{c b} h=>by
   rw[←h,Bool.eq_iff_iff,beq_iff_eq,beq_iff_eq];omega
  refine aa (by rw[Bool.true_and];exact Nat.ble_eq_true_of_le h) (ab (fun h2=>bad ?_) (fun h2=>aa ?_ (ab (fun h3=>bad ?_) (fun h3=>⟨bB _ rfl _ rfl _,aa ?_ ?_⟩))))
  ·unfold bP;rw[nt h2,Bool.not_true,Bool.false_and,Bool.and_false,Bool.and_false]
  ·rw[decide_eq_true (by omega),Bool.true_and];exact Nat.ble_eq_true_of_le (by omega)
  ·unfold bP;rw[nt h3,Bool.not_true,Bool.false_and,Bool.and_false,Bool.and_false,Bool.and_false]
  ·unfold eQ aN;rw[Bool.and_eq_true];exact⟨rfl,decide_eq_true (show s.length≤1099511627776 by omega)⟩
  ·have e:bP s=cO s:=by
    unfold bP;rw[decide_eq_true h,decide_eq_true h1,nt h2,nt h3];rfl
   rw[List.drop_zero];cases hg:cO s with
   |true=>exact bad (e.trans hg)
   |false=>exact fun _=>bad (e.trans hg)
 ·cases h
def rlabP:List V→Option V:=fun args=>match args with|[.str s]=>some (V.bool (bP s))|_=>none
def rdigT:List V→Option (List (Bool×(V×St)))
 |[.str s]=>some [(aN s,(.bool (bN s),[]))]
 |_=>none
theorem rdig_ok(args:List V)(l:List (Bool×(V×St)))(o:V×St)(h:rdigT args=some l)(ho:aC l=some o):FnSat Tryd.prog 119 args [] (Is o):=by
 unfold rdigT at h;split at h
 ·rename_i s;cases h;obtain⟨hk,rfl⟩:=aX ho;refine au (lim:=9) (n:=10) ax RB2_ok rfl rfl ?_;rw[rdig_tree];refine⟨bB _ rfl _ rfl _,aa ?_ ?_⟩
  ·unfold eQ;rw[hk];rfl
  ·rw[List.drop_zero];cases bN s with
   |true=>rfl
   |false=>exact fun _=>rfl
 ·cases h
def labG(a:List UInt8):List UInt8→List (List UInt8)
 |[]=>[a]
 |c::r=>if c=46 then a::labG [] r else labG (a++[c]) r
theorem labG_cut:∀(s a:List UInt8),labG a s=match(cutA s).2 with
  |none=>[a++(cutA s).1]
  |some r=>(a++(cutA s).1)::labG [] r
 |[],a=>by simp[labG,cutA]
 |c::r,a=>by
  by_cases hc:c=46
  ·simp[labG,cutA,hc]
  ·have:=labG_cut r (a++[c]);simp only[labG,cutA,if_neg hc];rw[this];cases(cutA r).2<;>simp
theorem labF_G:∀(k:Nat) (s:List UInt8),s.length<k→labF k s=labG [] s
 |0,s,h=>by omega
 |k+1,s,h=>by
  rw[labG_cut];unfold labF cutM cutB cutR;cases hc:(cutA s).2 with
  |none=>simp
  |some r=>
   have hl:r.length<s.length:=by
    have:∀(s r:List UInt8),(cutA s).2=some r→r.length<s.length:=by
     intro s
     induction s with
     |nil=>intro r h;simp[cutA]at h
     |cons c t ih=>
      intro r h;by_cases hc:c=46
      ·simp only[cutA,if_pos hc,Option.some.injEq]at h;subst h;simp
      ·simp only[cutA,if_neg hc]at h;have:=ih r h;simp only[List.length_cons];omega
    exact this s r hc
   simp only[Option.isSome_some,cond_true,Option.getD_some,List.nil_append];rw[labF_G k r (by omega)]
theorem lD(s:List UInt8):du s=labG [] s:=labF_G _ s (by omega)
theorem mD:∀(s a:List UInt8),(labG a s).length≤s.length+1
 |[],a=>by simp[labG]
 |c::r,a=>by
  simp only[labG];split
  ·have:=mD r [];simp only[List.length_cons];omega
  ·have:=mD r (a++[c]);simp only[List.length_cons];omega
structure RC where
 s:List UInt8
 o:List (List UInt8)
 j:Nat
 i:Nat
def rcSl:List (List UInt8)→V
 |[]=>.nilSlice
 |a::r=>.slice 0 0 (a::r).length false 0 0
def rcRw:List (List UInt8)→St
 |[]=>[]
 |a::r=>[.row (strs (a::r)) 9 1]
def rcV(x:RC):List V:=[.str x.s,.nilSlice,rcSl x.o,.int .i64 x.j,.int .i64 x.i]
def rcJ(x:RC):St:=rcRw x.o
def iH(x:RC):Bool:=aN x.s&&(Nat.ble x.j x.i&&(Nat.ble x.i (x.s.length+1)&&(Nat.ble x.o.length x.i&&(Nat.ble x.i x.s.length||!x.o.isEmpty))))
def rcMu(x:RC):Nat:=x.s.length+2-x.i
def rcDec:List (Option V)→St→Option RC
 |[some (.str s),some .nilSlice,some .nilSlice,some (.int .i64 0),some (.int .i64 0)],_=>some ⟨s,[],0,0⟩
 |_,_=>none
def rcL(x:RC):List (List UInt8):=bif Nat.ble x.i x.s.length then x.o++labG ((x.s.drop x.j).take (x.i-x.j)) (x.s.drop x.i)else x.o
def py(n:Nat)(cs:List V)(s:List UInt8)(K:Exit→List V→St→Prop):Prop:=∀j i:Int,K (.exit 0) [.str s,.nilSlice,.slice 0 0 n false 0 0,.int .i64 j,.int .i64 i] [.row cs 9 1]
def rcN(s:List UInt8)(o:List (List UInt8))(j i:Nat):Nat:=(rcL ⟨s,o,j,i⟩).length
def rcC(s:List UInt8)(o:List (List UInt8))(j i:Nat):List V:=strs (rcL ⟨s,o,j,i⟩)
def rcOut:Asks RC:=fun x K=>py (rcN x.s x.o x.j x.i) (rcC x.s x.o x.j x.i) x.s K
theorem fU(σ:List Nat):∀l:List (List UInt8),renL σ (strs l)=some (strs l)
 |[]=>rfl
 |a::r=>by
  have:=fU σ r;unfold strs at this ⊢;simp only[List.map_cons,renL,renV,this]
theorem mg(s:List UInt8)(j i:Int)(o:List (List UInt8))(b L:Nat)(hL:L=o.length){st:St}(hb:st[b]?=some (.row (strs o) 9 1)):
  Fits 0 [.str s,.nilSlice,.slice 0 0 o.length false 0 0,.int .i64 j,.int .i64 i] [.row (strs o) 9 1] [some (.str s),some .nilSlice,some (.slice b 0 L false 0 0),some (.int .i64 j),some (.int .i64 i)] st:=by
 subst hL;exact⟨[b],[.str s,.nilSlice,.slice b 0 o.length false 0 0,.int .i64 j,.int .i64 i],rfl,rfl,FitsM.of ⟨.inr ⟨_,.inl (by simp only[renB,fU]),hb⟩,trivial⟩,by simp,fun i hi=>by omega⟩
theorem take_more{s:List UInt8}{j i:Nat}{c:UInt8}{r:List UInt8}(hd:s.drop i=c::r)(hj:j≤i):(s.drop j).take (i+1-j)=(s.drop j).take (i-j)++[c]:=by
 have hl:i<s.length:=by
  rcases Nat.lt_or_ge i s.length with h|h
  ·exact h
  ·rw[List.drop_eq_nil_of_le h]at hd;cases hd
 have hc:(s.drop j)[i-j]?=some c:=by
  rw[List.getElem?_drop,show j+(i-j)=i by omega];have:=List.getElem?_drop (xs:=s) (i:=i) (j:=0);rw[hd,Nat.add_zero]at this;exact this.symm
 rw[show i+1-j=(i-j)+1 by omega,List.take_add_one,hc];rfl
theorem kb{s:List UInt8}{o:List (List UInt8)}{j i:Nat}(h:i≤s.length):rcL ⟨s,o,j,i⟩=o++labG ((s.drop j).take (i-j)) (s.drop i):=by
 unfold rcL;rw[Nat.ble_eq_true_of_le h];rfl
theorem rcL_out{s:List UInt8}{o:List (List UInt8)}{j i:Nat}(h:s.length<i):rcL ⟨s,o,j,i⟩=o:=by
 unfold rcL;cases hb:Nat.ble i s.length with
 |false=>rfl
 |true=>have:=Nat.le_of_ble_eq_true hb;omega
theorem rc_roundOk(x:RC)(hx:iH x=true):ah Tryd.prog RB0 9 10 (ac 9) 103 122 [0,2,3,4,5] (rcV x) (rcJ x) (av 0 iH rcV rcJ rcMu rcOut x):=by
 obtain⟨s,o,j,i⟩:=x;unfold iH at hx;simp only[Bool.and_eq_true]at hx;have p0:s.length≤1099511627776:=of_decide_eq_true hx.1;have p1:j≤i:=Nat.le_of_ble_eq_true hx.2.1;have p2:i≤s.length+1:=Nat.le_of_ble_eq_true hx.2.2.1;have p3:o.length≤i:=Nat.le_of_ble_eq_true hx.2.2.2.1;have p4:s.length<i→o≠[]:=fun h=>by
  have h4:=hx.2.2.2.2;rw[Bool.or_eq_true]at h4;rcases h4 with h4|h4
  ·have:=Nat.le_of_ble_eq_true h4;omega
  ·intro e;subst e;cases h4
 have w1:i64.wrap ((i:Int)+1)=((i+1:Nat):Int):=by rw[IntWalk.i64_in _ ⟨by omega,by omega⟩];omega
 have d1:decide ((0:Int)≤(j:Int))=true:=decide_eq_true (by omega);have d2:decide ((0:Int)≤(i:Int))=true:=decide_eq_true (by omega);have d5:(strs o).length.beq (o.length*1)=true:=by rw[aL,Nat.mul_one,Nat.beq_refl]
 have d6:((o.length+1).ble 9223372036854775807&&((o.length+1)*16).ble 140737488355328)=true:=by rw[Nat.ble_eq_true_of_le (by omega),Nat.ble_eq_true_of_le (by omega)];rfl
 have pre:∀(o':List (List UInt8)) (j':Nat),j'≤i+1→i≤s.length→o'.length≤i+1→(i=s.length→o'≠[])→iH ⟨s,o',j',i+1⟩=true:=fun o' j' h1 h2 h3 h4=>by
  unfold iH;simp only[Bool.and_eq_true,Bool.or_eq_true];refine⟨hx.1,Nat.ble_eq_true_of_le h1,Nat.ble_eq_true_of_le (by omega),Nat.ble_eq_true_of_le h3,?_⟩;rcases Nat.lt_or_ge i s.length with h|h
  ·exact .inl (Nat.ble_eq_true_of_le h)
  ·refine .inr ?_;have:=h4 (by omega);cases o' with
   |nil=>exact absurd rfl this
   |cons a q=>rfl
 -- a part ends
 have cut:∀(b L:Nat) (st:St),L=o.length+1→st[b]?=some (.row (strs (o++[(s.drop j).take (i-j)])) 9 1)→i≤s.length→(∀c r,s.drop i=c::r→c=46)→
   av 0 iH rcV rcJ rcMu rcOut ⟨s,o,j,i⟩ .normal [some (.str s),some .nilSlice,some (.slice b 0 L false 0 0),some (.int .i64 ((i+1:Nat):Int)),some (.int .i64 ((i+1:Nat):Int))] st:=by
  intro b L st hL hb hi hc;have hr:rcL ⟨s,o++[(s.drop j).take (i-j)],i+1,i+1⟩=rcL ⟨s,o,j,i⟩:=by
   cases hd:s.drop i with
   |nil=>
    have hi2:=fu hd hi;rw[rcL_out (by omega),kb hi,hd,labG]
   |cons c r=>
    obtain⟨_,h2,h3⟩:=dV hd;rw[kb h3,kb hi,hd,labG,if_pos (hc c r hd),h2,Nat.sub_self,List.take_zero,List.append_assoc];rfl
  refine⟨⟨s,o++[(s.drop j).take (i-j)],i+1,i+1⟩,pre _ _ (Nat.le_refl _) hi (by simp;omega) (fun _=>by simp),?_,by simp only[rcMu];omega,fun K hK=>?_⟩
  ·cases ho:o++[(s.drop j).take (i-j)]with
   |nil=>simp at ho
   |cons a q=>
    rw[ho]at hb;have hL:L=(a::q).length:=by rw[←ho];simp;omega
    exact mg s _ _ (a::q) b L hL hb
  ·have hK:py (rcN s o j i) (rcC s o j i) s K:=hK;unfold rcN rcC at hK;rw[←hr]at hK;exact hK
 have go:∀c r,s.drop i=c::r→c≠46→av 0 iH rcV rcJ rcMu rcOut ⟨s,o,j,i⟩ .normal [some (.str s),some .nilSlice,some (rcSl o),some (.int .i64 (j:Int)),some (.int .i64 ((i+1:Nat):Int))] (rcRw o):=fun c r h hc=>by
  obtain⟨_,h2,h3⟩:=dV h;refine⟨⟨s,o,j,i+1⟩,pre _ _ (by omega) (by omega) (by omega) (fun e=>by omega),?_,by simp only[rcMu];omega,fun K hK=>?_⟩
  ·cases o with
   |nil=>exact⟨[],[.str s,.nilSlice,.nilSlice,.int .i64 j,.int .i64 ((i+1:Nat):Int)],rfl,rfl,FitsM.of trivial,by simp,fun i hi=>by omega⟩
   |cons a q=>exact mg s _ _ (a::q) 0 _ rfl rfl
  ·have hK:py (rcN s o j i) (rcC s o j i) s K:=hK;have e:rcL ⟨s,o,j,i⟩=rcL ⟨s,o,j,i+1⟩:=by
    rw[kb (by omega),kb h3,h,labG,if_neg hc,take_more h p1,h2]
   unfold rcN rcC at hK;rw[e]at hK;exact hK
 have dot:∀{c:UInt8} {b:Bool},((c.toNat:Int)==46)=b→(decide (c=46))=b:=fun{c b} h=>by
  rw[←h,Bool.eq_iff_iff,beq_iff_eq,decide_eq_true_eq];exact⟨fun h=>by subst h;rfl,fun h=>UInt8.toNat_inj.1 (by have:(46:UInt8).toNat=46:=rfl;omega)⟩
 cases o with
 |nil=>
  show ah Tryd.prog RB0 9 10 (ac 9) 103 122 [0,2,3,4,5] [.str s,.nilSlice,.nilSlice,.int .i64 j,.int .i64 i] [] _;rw[rc_round0];unfold zw_0;have hi:i≤s.length:=by
   rcases Nat.lt_or_ge s.length i with h|h
   ·exact absurd rfl (p4 h)
   ·exact h
  have d0:decide ((i:Int)≤(s.length:Int))=true:=decide_eq_true (by omega);have d3:(j.ble i&&i.ble s.length)=true:=by rw[Nat.ble_eq_true_of_le p1,Nat.ble_eq_true_of_le hi];rfl
  simp only[d0,d1,d2,d3,w1,Int.toNat_natCast,cond_true,Bool.true_and];refine ab (fun h=>?_) (fun h=>?_)
  ·have h:=beq_iff_eq.1 h;exact cut 1 1 _ rfl rfl hi (fun c r hd=>by rw[List.drop_eq_nil_of_le (by omega)]at hd;cases hd)
  ·have h:=beq_eq_false_iff_ne.1 h;refine aa (Nat.ble_eq_true_of_le (by omega)) ?_;cases hd:s.drop i with
   |nil=>have:=fu hd hi;omega
   |cons c r=>
    rw[(dV hd).1];refine ab (fun h=>?_) (fun h=>?_)
    ·exact cut 1 1 _ rfl rfl hi (fun c' r' hd'=>by rw[hd]at hd';cases hd';exact of_decide_eq_true (dot h))
    ·exact go c r hd (of_decide_eq_false (dot h))
 |cons a q=>
  show ah Tryd.prog RB0 9 10 (ac 9) 103 122 [0,2,3,4,5] [.str s,.nilSlice,.slice 0 0 (a::q).length false 0 0,.int .i64 j,.int .i64 i] [.row (strs (a::q)) 9 1] _;rw[rc_round1];unfold zw_1;rcases Nat.lt_or_ge s.length i with hi|hi
  ·rw[decide_eq_false (show ¬((i:Int)≤(s.length:Int)) by omega),cond_false];refine⟨_,_,fun K hK=>?_,mg s j i (a::q) 0 _ rfl rfl⟩;have hK:py (rcN s (a::q) j i) (rcC s (a::q) j i) s K:=hK;unfold rcN rcC at hK;rw[rcL_out hi]at hK;exact hK j i
  have d0:decide ((i:Int)≤(s.length:Int))=true:=decide_eq_true (by omega);have d3:(j.ble i&&i.ble s.length)=true:=by rw[Nat.ble_eq_true_of_le p1,Nat.ble_eq_true_of_le hi];rfl
  have cat:∀x:List UInt8,strs (a::q)++[V.str x]=strs ((a::q)++[x]):=fun x=>by unfold strs;rw[List.map_append];rfl
  simp only[d0,d1,d2,d3,d5,d6,w1,cat,Int.toNat_natCast,cond_true,Bool.true_and];refine ab (fun h=>?_) (fun h=>?_)
  ·have h:=beq_iff_eq.1 h;exact cut 2 _ _ rfl rfl hi (fun c r hd=>by rw[List.drop_eq_nil_of_le (by omega)]at hd;cases hd)
  ·have h:=beq_eq_false_iff_ne.1 h;refine aa (Nat.ble_eq_true_of_le (by omega)) ?_;cases hd:s.drop i with
   |nil=>have:=fu hd hi;omega
   |cons c r=>
    rw[(dV hd).1];refine ab (fun h=>?_) (fun h=>?_)
    ·exact cut 2 _ _ rfl rfl hi (fun c' r' hd'=>by rw[hd]at hd';cases hd';exact of_decide_eq_true (dot h))
    ·exact go c r hd (of_decide_eq_false (dot h))
noncomputable def lkRC:Nat→Trans→Trans:=aU 122 (bp 0 (szOf Tryd.prog 103) [0,2,3,4,5] rcDec iH rcV rcJ rcOut) (ac 9)
theorem lkRC_ok:aE Tryd.prog 0 lkRC 103:=by
 unfold lkRC;exact bt (aR 9 0 103) (by kernel_rfl) fun f st Q h=>aW (P:=Tryd.prog) (T:=RB0) (k:=0) (lim:=9) (n:=10) (g:=103) (p0:=122) (lk:=ac 9) ax qv (aQ 9 _ _) rcMu rc_roundOk h
noncomputable def RB3:Tab:=⟨noT,noL,cG (aV 9) 103 0 lkRC⟩
theorem RB3_ok:TabOk3 Tryd.prog RB3:=⟨aF,aG,bn (ap 9) lkRC_ok⟩
theorem rcut_tree(s:List UInt8)(R:V→St→Prop):runM Tryd.prog RB3 9 10 103 [.str s] R=
  (
 Fits 0 [.str s,.nilSlice,.nilSlice,.int i64 0,.int i64 0] [] [some (.str s),some .nilSlice,some .nilSlice,some (.int i64 0),some
 (.int i64 0)] []∧bif iH {s:=s,o:=[],j:=0,i:=0}then ∀(j i:Int),R (.slice 0 0 (rcN s [] 0 0) false 0 0) [.row (rcC s [] 0 0) 9 1]else
 False):=by kernel_rfl
def rcutT:List V→Option (List (Bool×(V×St)))
 |[.str s]=>some [(aN s,(.slice 0 0 (lsN s []) false 0 0,[.row (lsC s []) 9 1]))]
 |_=>none
theorem rcL_all(s:List UInt8):rcL ⟨s,[],0,0⟩=[]++du s:=by
 rw[kb (Nat.zero_le _),lD];rfl
theorem px(args:List V)(l:List (Bool×(V×St)))(o:V×St)(h:rcutT args=some l)(ho:aC l=some o):FnSat Tryd.prog 103 args [] (Is o):=by
 unfold rcutT at h;split at h
 ·rename_i s;cases h;obtain⟨hk,rfl⟩:=aX ho;refine FnSat.fits (gc (lim:=9) (n:=10) ax RB3_ok ?_);rw[rcut_tree];refine⟨⟨[],[.str s,.nilSlice,.nilSlice,.int .i64 0,.int .i64 0],rfl,rfl,FitsM.of trivial,by simp,fun i hi=>by omega⟩,aa ?_ (fun j i=>?_)⟩
  ·unfold iH;rw[hk];rfl
  ·unfold rcN rcC lsN lsC;rw[rcL_all];exact⟨[0],[.slice 0 0 _ false 0 0],rfl,rfl,FitsM.of ⟨.inr ⟨_,.inl (by simp only[renB,fU]),rfl⟩,trivial⟩,by simp,fun i hi=>by omega⟩
 ·cases h
noncomputable def RB4:Tab:=⟨addP (addT (addT noT 103 rcutT) 119 rdigT) 120 rlabP,noL,aV 9⟩
theorem RB4_ok:TabOk3 Tryd.prog RB4:=⟨aS (bm (bm aF px) rdig_ok) (fun args v h=>rlab_ok args v h),aG,ap 9⟩
theorem rm_round(s:List UInt8)(o:List V)(n:Nat)(i:Int)(R:Exit→List (Option V)→St→Prop):ah Tryd.prog RB4 9 10 (ac 9) 95 122 [0,2,3,4] [.str s,.bool false,.slice 0 0 n false 0 0,.int .i64 i] [.row o 9 1] R=
  (
 bif decide (i<(↑n:Int))then bif decide (0≤i)&&decide (i<(↑n:Int))then bif (0+i.toNat*1).blt o.length then bif aK (o.getD (0+i.toNat*1) (.bool
 false))then bif !bP (ak (o.getD (0+i.toNat*1) (.bool false)))then R .ret [some (.str s),some (.bool false),some (.slice 0 0 n false 0 0),some
 (.int i64 i)] [.row o 9 1]else R .normal [some (.str s),some (.bool false),some (.slice 0 0 n false 0 0),some (.int i64 (i64.wrap
 (i+1)))] [.row o 9 1]else False else False else False else R (.exit 0) [some (.str s),some (.bool false),some (.slice 0 0 n false 0 0),some (.int
 i64 i)] [.row o 9 1]):=by kernel_rfl
structure RM where
 s:List UInt8
 o:List V
 i:Nat
def rmV(x:RM):List V:=[.str x.s,.bool false,.slice 0 0 x.o.length false 0 0,.int .i64 x.i]
def rmJ(x:RM):St:=[.row x.o 9 1]
def l9(x:RM):Bool:=x.o.all aK&&(Nat.ble x.o.length 1099511627800&&Nat.ble x.i x.o.length)
def rmMu(x:RM):Nat:=x.o.length-x.i
def rmDec:List (Option V)→St→Option RM
 |[some (.str s),some (.bool false),some (.slice b 0 n false 0 0),some (.int .i64 0)],st=>match st[b]? with
  |some (.row o _ _)=>some ⟨s,o,0⟩
  |_=>none
 |_,_=>none
def jp(o:List V):Bool:=(o.map ak).all bP
def rmOutG(s:List UInt8)(o:List V)(g:Bool)(K:Exit→List V→St→Prop):Prop:=bif g then ∀i:Int,K (.exit 0) [.str s,.bool false,.slice 0 0 o.length false 0 0,.int .i64 i] [.row o 9 1]else ∀i:Int,K .ret [.str s,.bool false,.slice 0 0 o.length false 0 0,.int .i64 i] [.row o 9 1]
def rmOut:Asks RM:=fun x K=>rmOutG x.s x.o (jp (x.o.drop x.i)) K
theorem lA(s:List UInt8)(l:List (List UInt8))(b L:Nat)(i:Int)(hL:L=(strs l).length){st:St}(hb:st[b]?=some (.row (strs l) 9 1)):
  Fits 0 [.str s,.bool false,.slice 0 0 (strs l).length false 0 0,.int .i64 i] [.row (strs l) 9 1] [some (.str s),some (.bool false),some (.slice b 0 L false 0 0),some (.int .i64 i)] st:=by
 subst hL;exact⟨[b],[.str s,.bool false,.slice b 0 (strs l).length false 0 0,.int .i64 i],rfl,rfl,FitsM.of ⟨.inr ⟨_,.inl (by simp only[renB,fU]),hb⟩,trivial⟩,by simp,fun i hi=>by omega⟩
theorem rm_roundOk(x:RM)(hx:l9 x=true):ah Tryd.prog RB4 9 10 (ac 9) 95 122 [0,2,3,4] (rmV x) (rmJ x) (av 0 l9 rmV rmJ rmMu rmOut x):=by
 obtain⟨s,o,i⟩:=x;have hx0:=hx;unfold l9 at hx;simp only[Bool.and_eq_true]at hx;have q1:o.all aK=true:=hx.1;have q2:o.length≤1099511627800:=Nat.le_of_ble_eq_true hx.2.1;have q3:i≤o.length:=Nat.le_of_ble_eq_true hx.2.2;obtain⟨l,rfl⟩:∃l,o=strs l:=⟨o.map ak,(lw q1).symm⟩;show ah Tryd.prog RB4 9 10 (ac 9) 95 122 [0,2,3,4] [.str s,.bool false,.slice 0 0 (strs l).length false 0 0,.int .i64 i] [.row (strs l) 9 1] _;rw[rm_round];rw[aL]at q2 q3;have hA:∀j,jp ((strs l).drop j)=(l.drop j).all bP:=fun j=>by
  have:(strs l).drop j=strs (l.drop j):=by unfold strs;rw[List.map_drop]
  unfold jp;rw[this,ar]
 have out:∀K,rmOut ⟨s,strs l,i⟩ K→rmOutG s (strs l) ((l.drop i).all bP) K:=fun K hK=>by
  have hK:rmOutG s (strs l) (jp ((strs l).drop i)) K:=hK;rw[hA]at hK;exact hK
 rw[aL];cases hd:l.drop i with
 |nil=>
  have hi:=bZ hd q3;rw[decide_eq_false (show ¬((i:Int)<(l.length:Int)) by omega),cond_false];refine⟨_,_,fun K hK=>?_,lA s l 0 _ i (by rw[aL]) rfl⟩;have hK:=out K hK;rw[hd]at hK;exact hK i
 |cons c r=>
  obtain⟨e1,e2,e3⟩:=bg hd;obtain⟨e4,e5⟩:=d9 hd;have e6:0+i*1=i*1:=by omega
  have w1:i64.wrap ((i:Int)+1)=((i+1:Nat):Int):=by rw[IntWalk.i64_in _ ⟨by omega,by omega⟩];omega
  have d0:decide ((i:Int)<(l.length:Int))=true:=decide_eq_true (by omega);have d1:decide ((0:Int)≤(i:Int))=true:=decide_eq_true (by omega);have e7:i.blt l.length=true:=Nat.ble_eq_true_of_le e3;rw[Nat.mul_one]at e4;simp only[d0,d1,w1,e4,e7,Nat.zero_add,Nat.mul_one,Int.toNat_natCast,aK,ak,cond_true,Bool.and_self];refine ab (fun h=>?_) (fun h=>?_)
  ·have h:bP c=false:=by simpa using h
   refine⟨_,_,fun K hK=>?_,lA s l 0 _ i (by rw[aL]) rfl⟩;have hK:=out K hK;rw[hd,List.all_cons,h,Bool.false_and]at hK;exact hK i
  ·have h:bP c=true:=by simpa using h
   refine⟨⟨s,strs l,i+1⟩,?_,lA s l 0 _ _ (by rw[aL]) rfl,by simp only[rmMu,aL];omega,fun K hK=>?_⟩
   ·unfold l9;simp only[Bool.and_eq_true];exact⟨q1,hx.2.1,Nat.ble_eq_true_of_le (by rw[aL];exact e3)⟩
   ·have hK:=out K hK;rw[hd,List.all_cons,h,Bool.true_and,←e2,←hA]at hK;exact hK
noncomputable def lkRM:Nat→Trans→Trans:=aU 122 (bp 0 (szOf Tryd.prog 95) [0,2,3,4] rmDec l9 rmV rmJ rmOut) (ac 9)
theorem lkRM_ok:aE Tryd.prog 0 lkRM 95:=by
 unfold lkRM;exact bt (aR 9 0 95) (by kernel_rfl) fun f st Q h=>aW (P:=Tryd.prog) (T:=RB4) (k:=0) (lim:=9) (n:=10) (g:=95) (p0:=122) (lk:=ac 9) ax RB4_ok (aQ 9 _ _) rmMu rm_roundOk h
noncomputable def RB5:Tab:=⟨addP (addT (addT noT 103 rcutT) 119 rdigT) 120 rlabP,noL,cG (aV 9) 95 0 lkRM⟩
theorem RB5_ok:TabOk3 Tryd.prog RB5:=⟨aS (bm (bm aF px) rdig_ok) (fun args v h=>rlab_ok args v h),aG,bn (ap 9) lkRM_ok⟩
noncomputable def zw_2(s:List UInt8):=((lsC s []).getD (0+(i64.wrap ((↑(lsN s []):Int)-1)).toNat*1) (V.bool false))
theorem rmay_tree(s:List UInt8)(R:V→Prop):runW Tryd.prog RB5 9 10 95 [.str s] R=
 (
 bif aN s then bif decide ((↑s.length:Int)>253)then R (.bool false)else bif decide (0≤i64.wrap ((↑(lsN s []):Int)-1))&&decide
 (i64.wrap ((↑(lsN s []):Int)-1)<(↑(lsN s []):Int))then bif (0+(i64.wrap ((↑(lsN s []):Int)-1)).toNat*1).blt (lsC s []).length
 then bif aK (zw_2 s)then bif aN (ak (zw_2 s))then bif bN (ak (zw_2 s))then R (.bool false)else Fits 0 [.str s,.bool false,.slice 0 0
 (lsC s []).length false 0 0,.int i64 0] [.row (lsC s []) 9 1] [some (.str s),some (.bool false),some (.slice 0 0 (lsN s []) false 0 0),some
 (.int i64 0)] [.row (lsC s []) 9 1]∧bif l9 {s:=s,o:=lsC s [],i:=0}then bif jp (List.drop 0 (lsC s []))then ∀(i:Int),R
 (.bool true)else ∀(i:Int),R (.bool false)else False else False else False else False else False else False):=by kernel_rfl
theorem nmA_all:∀(k:Nat) (s:List UInt8),s.length<k→nmA k s=((labF k s).all bP,(labF k s).all bP&&bN ((labF k s).getLastD []))
 |0,s,h=>by omega
 |k+1,s,h=>by
  unfold nmA labF;cases hl:bP (cutB s)with
  |false=>
   rw[cond_false];cases cutM s<;>simp[hl]
  |true=>
   rw[cond_true];cases hm:cutM s with
   |false=>simp[hl]
   |true=>
    rw[cond_true,cond_true];have hc:=lE hm;rw[nmA_all k (cutR s) (by omega)];have hne:labF k (cutR s)≠[]:=by
     cases k with
     |zero=>omega
     |succ k=>unfold labF;cases cutM (cutR s)<;>simp
    cases hq:labF k (cutR s)with
    |nil=>exact absurd hq hne
    |cons a q=>simp[hl]
theorem labG_ne:∀(s a:List UInt8),labG a s≠[]
 |[],a=>by simp[labG]
 |c::r,a=>by
  simp only[labG];split
  ·simp
  ·exact labG_ne r _
theorem mayN_all(s:List UInt8):mayN s=(decide (s.length≤253)&&((du s).all bP&&!bN ((du s).getLastD []))):=by
 unfold mayN nmO nmD du;rw[nmA_all _ s (by omega)];cases(labF (s.length+1) s).all bP<;>simp
def rmayT:List V→Option (List (Bool×(V×St)))
 |[.str s]=>some [(aN s,(.bool (mayN s),[]))]
 |_=>none
theorem mo:∀(s a:List UInt8),∀x∈labG a s,x.length≤a.length+s.length
 |[],a,x,h=>by simp[labG]at h;subst h;simp
 |c::r,a,x,h=>by
  simp only[labG]at h;split at h
  ·rcases List.mem_cons.1 h with h|h
   ·subst h;simp
   ·have:=mo r [] x h;simp only[List.length_cons,List.length_nil]at*;omega
  ·have:=mo r (a++[c]) x h;simp only[List.length_append,List.length_cons,List.length_nil]at*;omega
theorem rmay_ok(args:List V)(l:List (Bool×(V×St)))(o:V×St)(h:rmayT args=some l)(ho:aC l=some o):FnSat Tryd.prog 95 args [] (Is o):=by
 unfold rmayT at h;split at h
 ·rename_i s;cases h;obtain⟨hk,rfl⟩:=aX ho;have hb:=of_decide_eq_true hk;refine au (lim:=9) (n:=10) ax RB5_ok rfl rfl ?_;rw[rmay_tree];unfold zw_2;rw[mayN_all];have eC:lsC s []=strs (du s):=rfl;have eN:lsN s []=(du s).length:=rfl;have hlen:=mD s [];have hne:=labG_ne s [];rw[eC,eN];obtain⟨q,z,hq⟩:∃q z,du s=q++[z]:=by
   rw[←lD]at hne;exact⟨_,_,(List.dropLast_concat_getLast hne).symm⟩
  have hz:z.length≤s.length:=by
   have:=mo s [] z (by rw[←lD,hq];simp);simpa using this
  rw[←lD]at hlen;have hL:(du s).length=q.length+1:=by rw[hq];simp
  have w:i64.wrap (((du s).length:Int)-1)=(q.length:Int):=by rw[hL,IntWalk.i64_in _ ⟨by omega,by omega⟩];omega
  have g:(strs (du s)).getD q.length (.bool false)=.str z:=by
   rw[hq];unfold strs;rw[List.map_append,List.getD_eq_getElem?_getD,List.getElem?_append_right (by simp)];simp
  have last:(du s).getLastD []=z:=by rw[hq];simp
  have d1:(decide (0≤(q.length:Int))&&decide ((q.length:Int)<((du s).length:Int)))=true:=by rw[hL];simp;omega
  have d2:q.length.blt (strs (du s)).length=true:=Nat.ble_eq_true_of_le (by rw[aL,hL];omega);have d3:aN z=true:=decide_eq_true (by omega);simp only[w,Int.toNat_natCast,Nat.mul_one,Nat.zero_add,d1,d2,g,d3,aK,ak,last,hk,cond_true];refine ab (fun h=>?_) (fun h=>ab (fun h1=>?_) (fun h1=>⟨?_,aa ?_ ?_⟩))
  ·have h:=of_decide_eq_true h;rw[decide_eq_false (show ¬s.length≤253 by omega)];rfl
  ·rw[h1,Bool.not_true,Bool.and_false,Bool.and_false]
  ·exact lA s (du s) 0 _ 0 (by rw[aL]) rfl
  ·unfold l9;simp only[Bool.and_eq_true];exact⟨cj _,Nat.ble_eq_true_of_le (by rw[aL];omega),Nat.ble_eq_true_of_le (Nat.zero_le _)⟩
  ·have h:=of_decide_eq_false h;have e:(decide (s.length≤253)&&((du s).all bP&&!bN z))=(du s).all bP:=by
    rw[decide_eq_true (show s.length≤253 by omega),h1,Bool.not_false,Bool.and_true,Bool.true_and]
   have e2:jp (List.drop 0 (strs (du s)))=(du s).all bP:=by unfold jp;rw[List.drop_zero,ar]
   rw[e2,e];cases(du s).all bP with
   |true=>exact fun _=>rfl
   |false=>exact fun _=>rfl
 ·cases h
theorem rbare_tree(s:List UInt8)(R:V→Prop):runW Tryd.prog RB0 9 10 94 [.str s] R=
  (
 bif decide ((↑s.length:Int)>1)then bif true&&Nat.ble 2 s.length then bif List.take 2 (List.drop 0 s)==[42,46]then bif Nat.ble 2 s.length&&s.length.ble
 s.length then R (.tuple [.str (List.take (s.length-2) (List.drop 2 s)),.bool true])else False else R (.tuple [.str s,.bool false])else False else R (.tuple
 [.str s,.bool false])):=by kernel_rfl
def rbareP:List V→Option V
 |[.str s]=>some (.tuple [.str (ig s),.bool (starP s)])
 |_=>none
theorem rbare_ok(args:List V)(v:V)(h:rbareP args=some v):FnSat Tryd.prog 94 args [] (Is (v,[])):=by
 unfold rbareP at h;split at h
 ·rename_i s;cases h;refine au (lim:=9) (n:=10) ax qv rfl rfl ?_;rw[rbare_tree];unfold ig starP;have hd:List.drop 0 s=s:=rfl;rw[hd];refine ab (fun h=>?_) (fun h=>?_)
  ·have h:=of_decide_eq_true h;refine aa (by rw[Bool.true_and];exact Nat.ble_eq_true_of_le (by omega)) (ab (fun h1=>aa ?_ ?_) (fun h1=>?_))
   ·rw[Nat.ble_eq_true_of_le (show 2≤s.length by omega),Nat.ble_eq_true_of_le (Nat.le_refl _)];rfl
   ·rw[if_pos (beq_iff_eq.1 h1),h1,List.take_of_length_le (by simp)]
   ·rw[if_neg (beq_eq_false_iff_ne.1 h1),h1]
  ·have h:=of_decide_eq_false h;have n:s.take 2≠[42,46]:=fun e=>by
    have:=congrArg List.length e;simp at this;omega
   rw[if_neg n,beq_false_of_ne n]
 ·cases h
noncomputable def RM0:Tab:=⟨addT (addT (addP noT 94 rbareP) 95 rmayT) 103 rcutT,noL,aV 9⟩
theorem RM0_ok:TabOk3 Tryd.prog RM0:=⟨bm (bm (aS aF rbare_ok) rmay_ok) px,aG,ap 9⟩
theorem rpat_tree(s:List UInt8)(R:V→Prop):runW Tryd.prog RM0 9 10 54 [.str s] R=
  (
 bif aN (ig s)then R (.bool (mayN (ig s)))else False):=by kernel_rfl
theorem okLen_bare{s:List UInt8}(h:aN s=true):aN (ig s)=true:=by
 unfold aN at*
 have h:=of_decide_eq_true h;refine decide_eq_true ?_;unfold ig;split
 ·simp;omega
 ·exact h
def rpatT:List V→Option (List (Bool×(V×St)))
 |[.str s]=>some [(aN s,(.bool (patN s),[]))]
 |_=>none
theorem rpat_ok(args:List V)(l:List (Bool×(V×St)))(o:V×St)(h:rpatT args=some l)(ho:aC l=some o):FnSat Tryd.prog 54 args [] (Is o):=by
 unfold rpatT at h;split at h
 ·rename_i s;cases h;obtain⟨hk,rfl⟩:=aX ho;refine au (lim:=9) (n:=10) ax RM0_ok rfl rfl ?_;rw[rpat_tree];exact aa (okLen_bare hk) rfl
 ·cases h
noncomputable def RT0:Tab:=⟨addT noT 89 putF,noL,aV 9⟩
theorem RT0_ok:TabOk3 Tryd.prog RT0:=⟨bm aF rput_ok,aG,ap 9⟩
theorem rth_tree(t:Int)(s:List UInt8)(R:V→Prop):runW Tryd.prog RT0 9 10 47 [.int .u8 t,.str s] R=
  (
 bif ec t then R (.str (putB t s))else False):=by kernel_rfl
def rthT:List V→Option (List (Bool×(V×St)))
 |[.int .u8 t,.str s]=>some [(ec t,(.str (putB t s),[]))]
 |_=>none
theorem rth_ok(args:List V)(l:List (Bool×(V×St)))(o:V×St)(h:rthT args=some l)(ho:aC l=some o):FnSat Tryd.prog 47 args [] (Is o):=by
 unfold rthT at h;split at h
 ·rename_i t s;cases h;obtain⟨hk,rfl⟩:=aX ho;refine au (lim:=9) (n:=10) ax RT0_ok rfl rfl ?_;rw[rth_tree];exact aa hk rfl
 ·cases h
noncomputable def RT1:Tab:=⟨addT (addT noT 47 rthT) 54 rpatT,noL,aV 9⟩
theorem RT1_ok:TabOk3 Tryd.prog RT1:=⟨bm (bm aF rth_ok) rpat_ok,aG,ap 9⟩
theorem rspki_tree(k:List UInt8)(R:V→Prop):runW Tryd.prog RT1 9 10 15 [.str k] R=
  (
 bif decide ((↑k.length:Int)<1)then R (.str [])else bif decide ((↑k.length:Int)>64)then R (.str [])else R (.str (putB 48 (putB 4 k)))):=by kernel_rfl
theorem rmy_round(k g:List UInt8)(x:Value)(n:Nat)(cs:List V)(f u:Int)(ca:Bool)(i:Int)(R:Exit→List (Option V)→St→Prop):ah Tryd.prog RT1 9 10 (ac 9) 13 26 [1,2,3] [.ptr 0 0,.bool false,.int .i64 i] [.row [.str k,.str g,.lst x n cs,.int .i64 f,.int .i64 u,.bool ca] 31 6] R=
  (
 bif decide (i<(↑n:Int))then bif decide (0≤i)&&decide (i<(↑n:Int))then bif (i.toNat*1).blt cs.length then bif aK (cs.getD (i.toNat*1) (.bool false))
 then bif aN (ak (cs.getD (i.toNat*1) (.bool false)))then bif !patN (ak (cs.getD (i.toNat*1) (.bool false)))then R .ret [some (.ptr 0 0),some
 (.bool false),some (.int i64 i)] [.row [.str k,.str g,.lst x n cs,.int i64 f,.int i64 u,.bool ca] 31 6]else R .normal [some
 (.ptr 0 0),some (.bool false),some (.int i64 (i64.wrap (i+1)))] [.row [.str k,.str g,.lst x n cs,.int i64 f,.int i64 u,
 .bool ca] 31 6]else False else False else False else False else R (.exit 0) [some (.ptr 0 0),some (.bool false),some (.int i64 i)] [.row [.str k,
 .str g,.lst x n cs,.int i64 f,.int i64 u,.bool ca] 31 6]):=by kernel_rfl
theorem ren_round(k g:List UInt8)(x:Value)(n:Nat)(cs:List V)(f u:Int)(ca:Bool)(o:List UInt8)(i:Int)(R:Exit→List (Option V)→St→Prop):ah Tryd.prog RT1 9 10 (ac 9) 10 122 [1,2,3,4,5] [.ptr 0 0,.str [],.int .i64 0,.str o,.int .i64 i] [.row [.str k,.str g,.lst x n cs,.int .i64 f,.int .i64 u,.bool ca] 31 6] R=
  (
 bif decide (i<(↑n:Int))then bif decide (0≤i)&&decide (i<(↑n:Int))then bif (i.toNat*1).blt cs.length then bif aK (cs.getD (i.toNat*1) (.bool false))
 then bif (o.length+(putB 130 (ak (cs.getD (i.toNat*1) (.bool false)))).length).ble 9223372036854775807 then R .normal [some (.ptr 0 0),some (.str []),
 some (.int i64 0),some (.str (o++putB 130 (ak (cs.getD (i.toNat*1) (.bool false))))),some (.int i64 (i64.wrap (i+1)))] [.row
 [.str k,.str g,.lst x n cs,.int i64 f,.int i64 u,.bool ca] 31 6]else False else False else False else False else R (.exit 0) [some (.ptr
 0 0),some (.str []),some (.int i64 0),some (.str o),some (.int i64 i)] [.row [.str k,.str g,.lst x n cs,.int i64 f,.int
 i64 u,.bool ca] 31 6]):=by kernel_rfl
theorem l7(args:List V)(v:V)(h:iF args=some v):FnSat Tryd.prog 15 args [] (Is (v,[])):=by
 unfold iF at h;split at h
 ·rename_i k;cases h;refine au (lim:=9) (n:=10) ax RT1_ok rfl rfl ?_;rw[rspki_tree];unfold bF;refine ab (fun h=>?_) (fun h=>ab (fun h1=>?_) (fun h1=>?_))
  ·have h:=of_decide_eq_true h;have:k=[]:=List.length_eq_zero_iff.1 (by omega);rw[if_pos this]
  ·have h:=of_decide_eq_false h;have h1:=of_decide_eq_true h1;rw[if_neg (fun e=>by subst e;simp at h),if_pos (by omega)]
  ·have h:=of_decide_eq_false h;have h1:=of_decide_eq_false h1;rw[if_neg (fun e=>by subst e;simp at h),if_neg (by omega)]
 ·cases h
structure RMY where
 c:CT
 i:Nat
def rmyV(y:RMY):List V:=[.ptr 0 0,.bool false,.int .i64 y.i]
def rmyJ(y:RMY):St:=[.row y.c.cells 31 6]
def okLs2(cs:List V):Bool:=(cs.map ak).all aN
def iY(y:RMY):Bool:=okS y.c.n y.c.cs&&(okLs2 y.c.cs&&Nat.ble y.i y.c.n)
def rmyMu(y:RMY):Nat:=y.c.n-y.i
def rmyDec:List (Option V)→St→Option RMY
 |[some (.ptr 0 0),some (.bool false),some (.int .i64 0)],(.row [.str k,.str g,.lst x n cs,.int .i64 f,.int .i64 u,.bool ca] _ _)::_=>some ⟨⟨k,g,x,n,cs,f,u,ca⟩,0⟩
 |_,_=>none
def pq(c:CT)(b:Bool)(K:Exit→List V→St→Prop):Prop:=
 bif b then ∀j:Int,K (.exit 0) [.ptr 0 0,.bool false,.int .i64 j] [.row c.cells 31 6]else ∀j:Int,K .ret [.ptr 0 0,.bool false,.int .i64 j] [.row c.cells 31 6]
def rmyOut:Asks RMY:=fun y K=>pq y.c (allP (y.c.cs.drop y.i)) K
theorem jC(c:CT)(j:Int):Fits 0 [.ptr 0 0,.bool false,.int .i64 j] [.row c.cells 31 6] [some (.ptr 0 0),some (.bool false),some (.int .i64 j)] [.row c.cells 31 6]:=
 ⟨[0],[.ptr 0 0,.bool false,.int .i64 j],rfl,rfl,FitsM.of ⟨.inr ⟨_,.inl rfl,rfl⟩,trivial⟩,by simp,fun i hi=>by omega⟩
theorem rmy_roundOk(y:RMY)(hx:iY y=true):ah Tryd.prog RT1 9 10 (ac 9) 13 26 [1,2,3] (rmyV y) (rmyJ y) (av 0 iY rmyV rmyJ rmyMu rmyOut y):=by
 obtain⟨⟨k,g,x,n,cs,f,u,ca⟩,i⟩:=y;unfold iY at hx;simp only[Bool.and_eq_true]at hx;have hx1:okS n cs=true:=hx.1;have hx2:okLs2 cs=true:=hx.2.1;have p1:i≤n:=Nat.le_of_ble_eq_true hx.2.2;obtain⟨l,rfl,rfl,p2,p3⟩:=cJ hx1;have hl:∀c∈l,aN c=true:=by
  unfold okLs2 at hx2;rw[ar]at hx2;exact List.all_eq_true.1 hx2
 show ah Tryd.prog RT1 9 10 (ac 9) 13 26 [1,2,3] [.ptr 0 0,.bool false,.int .i64 i] [.row [.str k,.str g,.lst x l.length (strs l),.int .i64 f,.int .i64 u,.bool ca] 31 6] _;rw[rmy_round];have hA:∀j,allP ((strs l).drop j)=(l.drop j).all patN:=fun j=>by
  have:(strs l).drop j=strs (l.drop j):=by unfold strs;rw[List.map_drop]
  unfold allP;rw[this,ar]
 have out:∀K,rmyOut ⟨⟨k,g,x,l.length,strs l,f,u,ca⟩,i⟩ K→pq ⟨k,g,x,l.length,strs l,f,u,ca⟩ ((l.drop i).all patN) K:=fun K hK=>by
  have hK:pq ⟨k,g,x,l.length,strs l,f,u,ca⟩ (allP ((strs l).drop i)) K:=hK;rw[hA]at hK;exact hK
 cases hd:l.drop i with
 |nil=>
  have hi:=bZ hd p1;rw[decide_eq_false (show ¬((i:Int)<(l.length:Int)) by omega),cond_false];refine⟨_,_,fun K hK=>?_,jC ⟨k,g,x,l.length,strs l,f,u,ca⟩ i⟩;have hK:=out K hK;rw[hd]at hK;exact hK i
 |cons c r=>
  obtain⟨e1,e2,e3⟩:=bg hd;obtain⟨e4,e5⟩:=d9 hd;have w1:i64.wrap ((i:Int)+1)=((i+1:Nat):Int):=by rw[IntWalk.i64_in _ ⟨by omega,by omega⟩];omega
  have d0:decide ((i:Int)<(l.length:Int))=true:=decide_eq_true (by omega);have d1:decide ((0:Int)≤(i:Int))=true:=decide_eq_true (by omega);have d2:aN c=true:=hl c (List.mem_of_getElem? e1);simp only[d0,d1,d2,w1,e4,e5,Int.toNat_natCast,aK,ak,cond_true,Bool.and_self];refine ab (fun h=>?_) (fun h=>?_)
  ·have h:patN c=false:=by simpa using h
   refine⟨_,_,fun K hK=>?_,jC ⟨k,g,x,l.length,strs l,f,u,ca⟩ i⟩;have hK:=out K hK;rw[hd,List.all_cons,h,Bool.false_and]at hK;exact hK i
  ·have h:patN c=true:=by simpa using h
   refine⟨⟨⟨k,g,x,l.length,strs l,f,u,ca⟩,i+1⟩,?_,jC ⟨k,g,x,l.length,strs l,f,u,ca⟩ _,by simp only[rmyMu];omega,fun K hK=>?_⟩
   ·unfold iY;simp only[Bool.and_eq_true];exact⟨hx1,hx2,Nat.ble_eq_true_of_le e3⟩
   ·have hK:=out K hK;rw[hd,List.all_cons,h,Bool.true_and,←e2,←hA]at hK;exact hK
noncomputable def lkRMY:Nat→Trans→Trans:=aU 26 (bp 0 (szOf Tryd.prog 13) [1,2,3] rmyDec iY rmyV rmyJ rmyOut) (ac 9)
theorem lkRMY_ok:aE Tryd.prog 0 lkRMY 13:=by
 unfold lkRMY;exact bt (aR 9 0 13) (by kernel_rfl) fun f st Q h=>aW (P:=Tryd.prog) (T:=RT1) (k:=0) (lim:=9) (n:=10) (g:=13) (p0:=26) (lk:=ac 9) ax RT1_ok (aQ 9 _ _) rmyMu rmy_roundOk h
noncomputable def RT2:Tab:=⟨noT,noL,cG (aV 9) 13 0 lkRMY⟩
theorem RT2_ok:TabOk3 Tryd.prog RT2:=⟨aF,aG,bn (ap 9) lkRMY_ok⟩
theorem rcmay_tree(k g:List UInt8)(x:Value)(n:Nat)(cs:List V)(f u:Int)(ca:Bool)(R:V→Prop):runW Tryd.prog RT2 9 10 13 [.agg [.str k,.str g,.lst x n cs,.int .i64 f,.int .i64 u,.bool ca]] R=
  (
 Fits 0 [.ptr 0 0,.bool false,.int i64 0] [.row [.str k,.str g,.lst x n cs,.int i64 f,.int i64 u,.bool ca] 31 6] [some (.ptr 0
 0),some (.bool false),some (.int i64 0)] [.row [.str k,.str g,.lst x n cs,.int i64 f,.int i64 u,.bool ca] 31 6]∧bif iY {c:={k:=k,g:=g,x:=x,n:=n,cs:=cs,f:=f,u:=u,ca:=ca},i:=0}
 then bif allP cs then ∀(j:Int),bif decide ((↑k.length:Int)≥1)then bif decide ((↑k.length:Int)≤64)then bif (↑g.length:Int)==32 then bif decide (f≥0)
 then bif decide (f≤1099511627776)then bif decide (u≥0)then R (.bool (decide (u≤1099511627776)))else R (.bool false)else R (.bool false)else R (.bool false)
 else R (.bool false)else R (.bool false)else R (.bool false)else ∀(j:Int),R (.bool false)else False):=by kernel_rfl
theorem rcmay_sat(k g:List UInt8)(x:Value)(l:List (List UInt8))(f u:Int)(ca:Bool)(hl:l.length≤9223372036854775807)(ho:l.all aN=true):FnSat Tryd.prog 13 [.agg [.str k,.str g,lstS x l,.int .i64 f,.int .i64 u,.bool ca]] [] (Is (.bool (mayC k g f u&&l.all patN),[])):=by
 refine au (lim:=9) (n:=10) ax RT2_ok rfl rfl ?_;unfold lstS;rw[rcmay_tree];refine⟨jC ⟨k,g,x,l.length,strs l,f,u,ca⟩ 0,aa ?_ ?_⟩
 ·unfold iY okLs2;simp only[Bool.and_eq_true,ar];exact⟨fj hl,ho,Nat.ble_eq_true_of_le (Nat.zero_le _)⟩
 have ha:allP (strs l)=l.all patN:=by unfold allP;rw[ar]
 rw[ha];cases l.all patN with
 |false=>exact fun _=>by rw[Bool.and_false]
 |true=>
 intro _;rw[Bool.and_true];unfold mayC;have e:decide ((k.length:Int)>0)=decide ((k.length:Int)≥1):=by
  rw[Bool.eq_iff_iff,decide_eq_true_eq,decide_eq_true_eq];omega
 rw[e];refine ab (fun h=>?_) (fun h=>by rw[h];rfl);rw[h];refine ab (fun h=>?_) (fun h=>by rw[h];rfl);rw[h];refine ab (fun h=>?_) (fun h=>by rw[h];rfl);rw[h];refine ab (fun h=>?_) (fun h=>by rw[h];rfl);rw[h];refine ab (fun h=>?_) (fun h=>by rw[h];rfl);rw[h];refine ab (fun h=>?_) (fun h=>by rw[h];rfl);rw[h];simp only[Bool.true_and]
def ei:List V→St→Option (List (Bool×(V×St)))
 |[.agg [.str k,.str g,p,.int .i64 f,.int .i64 u,.bool _]],st=>match bq st p with
  |some (b,l)=>some [(b&&(Nat.ble l.length 9223372036854775807&&l.all aN),(.bool (mayC k g f u&&l.all patN),st))]
  |none=>none
 |_,_=>none
theorem nS(args:List V)(s:St)(l:List (Bool×(V×St)))(o:V×St)(h:ei args s=some l)(ho:aC l=some o):FnSat Tryd.prog 13 args s (Is o):=by
 unfold ei at h;split at h
 ·rename_i k g p f u ca;split at h
  ·rename_i b ls hv;cases h;obtain⟨hb,rfl⟩:=aX ho;simp only[Bool.and_eq_true]at hb;obtain⟨rfl,h1,h2⟩:=hb;refine fJ rfl fun B W0 w m rargs hr ha=>?_;obtain⟨a,r,q1,q2,rfl⟩:=ao ha;simp only[ae,Option.some.injEq]at q2;subst q2;obtain⟨y,hy⟩:=eg hr hv q1;exact⟨[.agg [.str k,.str g,lstS y ls,.int .i64 f,.int .i64 u,.bool ca]],by simp only[ae,hy],@rcmay_sat (Frz.of w) k g y ls f u ca (Nat.le_of_ble_eq_true h1) h2⟩
  ·cases h
 ·cases h
structure REN where
 c:CT
 o:List UInt8
 i:Nat
def renV'(y:REN):List V:=[.ptr 0 0,.str [],.int .i64 0,.str y.o,.int .i64 y.i]
def renJ(y:REN):St:=[.row y.c.cells 31 6]
def iZ(y:REN):Bool:=okS y.c.n y.c.cs&&(allP y.c.cs&&(Nat.ble y.i y.c.n&&(Nat.ble y.c.n 64&&Nat.ble y.o.length (y.i*300))))
def renMu(y:REN):Nat:=y.c.n-y.i
def renDec:List (Option V)→St→Option REN
 |[some (.ptr 0 0),some (.str []),some (.int .i64 0),some (.str []),some (.int .i64 0)],(.row [.str k,.str g,.lst x n cs,.int .i64 f,.int .i64 u,.bool ca] _ _)::_=>some ⟨⟨k,g,x,n,cs,f,u,ca⟩,[],0⟩
 |_,_=>none
def nmsB(cs:List V):List UInt8:=((cs.map ak).map bh).flatten
def pu(c:CT)(o:List UInt8)(K:Exit→List V→St→Prop):Prop:=∀j:Int,K (.exit 0) [.ptr 0 0,.str [],.int .i64 0,.str o,.int .i64 j] [.row c.cells 31 6]
def renOut:Asks REN:=fun y K=>pu y.c (y.o++nmsB (y.c.cs.drop y.i)) K
theorem ma(c:CT)(o:List UInt8)(j:Int):Fits 0 [.ptr 0 0,.str [],.int .i64 0,.str o,.int .i64 j] [.row c.cells 31 6] [some (.ptr 0 0),some (.str []),some (.int .i64 0),some (.str o),some (.int .i64 j)] [.row c.cells 31 6]:=
 ⟨[0],[.ptr 0 0,.str [],.int .i64 0,.str o,.int .i64 j],rfl,rfl,FitsM.of ⟨.inr ⟨_,.inl rfl,rfl⟩,trivial⟩,by simp,fun i hi=>by omega⟩
theorem ren_roundOk(y:REN)(hx:iZ y=true):ah Tryd.prog RT1 9 10 (ac 9) 10 122 [1,2,3,4,5] (renV' y) (renJ y) (av 0 iZ renV' renJ renMu renOut y):=by
 obtain⟨⟨k,g,x,n,cs,f,u,ca⟩,o,i⟩:=y;unfold iZ at hx;simp only[Bool.and_eq_true]at hx;have hx1:okS n cs=true:=hx.1;have hx2:allP cs=true:=hx.2.1;have p1:i≤n:=Nat.le_of_ble_eq_true hx.2.2.1;have p4:n≤64:=Nat.le_of_ble_eq_true hx.2.2.2.1;have p5:o.length≤i*300:=Nat.le_of_ble_eq_true hx.2.2.2.2;obtain⟨l,rfl,rfl,p2,p3⟩:=cJ hx1;have hl:∀c∈l,patN c=true:=by
  unfold allP at hx2;rw[ar]at hx2;exact List.all_eq_true.1 hx2
 show ah Tryd.prog RT1 9 10 (ac 9) 10 122 [1,2,3,4,5] [.ptr 0 0,.str [],.int .i64 0,.str o,.int .i64 i] [.row [.str k,.str g,.lst x l.length (strs l),.int .i64 f,.int .i64 u,.bool ca] 31 6] _;rw[ren_round];have hA:∀j,nmsB ((strs l).drop j)=((l.drop j).map bh).flatten:=fun j=>by
  have:(strs l).drop j=strs (l.drop j):=by unfold strs;rw[List.map_drop]
  unfold nmsB;rw[this,ar]
 have out:∀K,renOut ⟨⟨k,g,x,l.length,strs l,f,u,ca⟩,o,i⟩ K→pu ⟨k,g,x,l.length,strs l,f,u,ca⟩ (o++((l.drop i).map bh).flatten) K:=fun K hK=>by
  have hK:pu ⟨k,g,x,l.length,strs l,f,u,ca⟩ (o++nmsB ((strs l).drop i)) K:=hK;rw[hA]at hK;exact hK
 cases hd:l.drop i with
 |nil=>
  have hi:=bZ hd p1;rw[decide_eq_false (show ¬((i:Int)<(l.length:Int)) by omega),cond_false];refine⟨_,_,fun K hK=>?_,ma ⟨k,g,x,l.length,strs l,f,u,ca⟩ o i⟩;have hK:=out K hK;rw[hd,List.map_nil,List.flatten_nil,List.append_nil]at hK;exact hK i
 |cons c r=>
  obtain⟨e1,e2,e3⟩:=bg hd;obtain⟨e4,e5⟩:=d9 hd;have w1:i64.wrap ((i:Int)+1)=((i+1:Nat):Int):=by rw[IntWalk.i64_in _ ⟨by omega,by omega⟩];omega
  have d0:decide ((i:Int)<(l.length:Int))=true:=decide_eq_true (by omega);have d1:decide ((0:Int)≤(i:Int))=true:=decide_eq_true (by omega);have hc:=gg (hl c (List.mem_of_getElem? e1));have hp:=bi 130 c;have d2:(o.length+(putB 130 c).length).ble 9223372036854775807=true:=Nat.ble_eq_true_of_le (by omega);simp only[d0,d1,d2,w1,e4,e5,Int.toNat_natCast,aK,ak,cond_true,Bool.and_self];refine⟨⟨⟨k,g,x,l.length,strs l,f,u,ca⟩,o++putB 130 c,i+1⟩,?_,ma ⟨k,g,x,l.length,strs l,f,u,ca⟩ _ _,by simp only[renMu];omega,fun K hK=>?_⟩
  ·unfold iZ;simp only[Bool.and_eq_true];exact⟨hx1,hx2,Nat.ble_eq_true_of_le e3,hx.2.2.2.1,Nat.ble_eq_true_of_le (by simp only[List.length_append];omega)⟩
  ·have hK:=out K hK;rw[hd,List.map_cons,List.flatten_cons,←List.append_assoc,←e2,←hA]at hK;exact hK
noncomputable def lkREN:Nat→Trans→Trans:=aU 122 (bp 0 (szOf Tryd.prog 10) [1,2,3,4,5] renDec iZ renV' renJ renOut) (ac 9)
theorem lkREN_ok:aE Tryd.prog 0 lkREN 10:=by
 unfold lkREN;exact bt (aR 9 0 10) (by kernel_rfl) fun f st Q h=>aW (P:=Tryd.prog) (T:=RT1) (k:=0) (lim:=9) (n:=10) (g:=10) (p0:=122) (lk:=ac 9) ax RT1_ok (aQ 9 _ _) renMu ren_roundOk h
noncomputable def RT3:Tab:=⟨addP (addT (addT (addP noT 15 iF) 47 rthT) 48 rintF) 49 oV,addS noL 13 ei,cG (aV 9) 10 0 lkREN⟩
theorem RT3_ok:TabOk3 Tryd.prog RT3:=⟨aS (bm (bm (aS aF l7) rth_ok) rint_ok) rbool_ok,cH aG nS,bn (ap 9) lkREN_ok⟩
theorem renc_tree(k g:List UInt8)(x:Value)(n:Nat)(cs:List V)(f u:Int)(ca:Bool)(R:V→Prop):runW Tryd.prog RT3 9 10 10 [.agg [.str k,.str g,.lst x n cs,.int .i64 f,.int .i64 u,.bool ca]] R=
  (
 bif cs.length.beq (n*1)&&(cs.all aK&&cs.length.beq n)&&((List.map ak cs).length.ble 9223372036854775807&&(List.map ak cs).all aN)then bif !(mayC
 (k) (g) f u&&(List.map ak cs).all patN)then R (.tuple [.str [],.int i64 4])else bif decide ((↑n:Int)>64)then R (.tuple [.str [],.int
 i64 4])else Fits 0 [.ptr 0 0,.str [],.int i64 0,.str [],.int i64 0] [.row [.str k,.str g,.lst x n cs,.int i64 f,.int
 i64 u,.bool ca] 31 6] [some (.ptr 0 0),some (.str []),some (.int i64 0),some (.str []),some (.int i64 0)] [.row [.str k,.str g,
 .lst x n cs,.int i64 f,.int i64 u,.bool ca] 31 6]∧bif iZ {c:={k:=k,g:=g,x:=x,n:=n,cs:=cs,f:=f,u:=u,ca:=ca},o:=[],i:=0}
 then ∀(j:Int),bif ((bF (k)).length+(putB 4 (g)).length).ble 9223372036854775807 then bif ((bF (k)++putB 4 (g)).length+(putB 48 ([]++nmsB
 cs)).length).ble 9223372036854775807 then bif okI f then bif ((bF (k)++putB 4 (g)++putB 48 ([]++nmsB cs)).length+(putB 2 (intL f)).length).ble
 9223372036854775807 then bif okI u then bif ((bF (k)++putB 4 (g)++putB 48 ([]++nmsB cs)++putB 2 (intL f)).length+(putB 2 (intL u)).length).ble
 9223372036854775807 then bif ((bF (k)++putB 4 (g)++putB 48 ([]++nmsB cs)++putB 2 (intL f)++putB 2 (intL u)).length+(putB 1 (cX ca)).length).ble
 9223372036854775807 then bif decide ((↑(putB 48 (bF (k)++putB 4 (g)++putB 48 ([]++nmsB cs)++putB 2 (intL f)++putB 2 (intL u)++putB 1 (cX ca))).length:
 Int)>512)then R (.tuple [.str [],.int i64 40])else R (.tuple [.str (putB 48 (bF (k)++putB 4 (g)++putB 48 ([]++nmsB cs)++putB 2 (intL f)++
 putB 2 (intL u)++putB 1 (cX ca))),.int i64 0])else False else False else False else False else False else False else False else False else False):=by kernel_rfl
theorem renc_sat(k g:List UInt8)(x:Value)(l:List (List UInt8))(f u:Int)(ca:Bool)(hl:l.length≤9223372036854775807)(ho:l.all aN=true):
  FnSat Tryd.prog 10 [.agg [.str k,.str g,lstS x l,.int .i64 f,.int .i64 u,.bool ca]] [] (Is (.tuple [.str (encB k g l f u ca),.int .i64 (encE k g l f u ca)],[])):=by
 refine au (lim:=9) (n:=10) ax RT3_ok rfl rfl ?_;unfold lstS;rw[renc_tree];have e0:(strs l).length.beq (l.length*1)=true:=by rw[aL,Nat.mul_one];exact Nat.beq_refl _
 have e1:(strs l).length.beq l.length=true:=by rw[aL];exact Nat.beq_refl _
 have e2:l.length.ble 9223372036854775807=true:=Nat.ble_eq_true_of_le hl;have e3:nmsB (strs l)=(l.map bh).flatten:=by unfold nmsB;rw[ar]
 simp only[e0,e1,e3,cj,ar,e2,ho,List.nil_append,Bool.and_self,cond_true];refine ab (fun h=>?_) (fun h=>?_)
 ·have h:(mayC k g f u&&l.all patN)=false:=by rw[Bool.not_eq_true']at h;exact h
  have e:dv k g l f u=false:=by unfold dv;rw[h,Bool.false_and]
  unfold encB encE;rw[e];rfl
 have h:(mayC k g f u&&l.all patN)=true:=by rw[Bool.not_eq_false']at h;exact h
 have hm:=h;rw[Bool.and_eq_true]at hm;refine ab (fun h1=>?_) (fun h1=>?_)
 ·have h1:=of_decide_eq_true h1;have e:dv k g l f u=false:=by unfold dv;rw[h,Bool.true_and];exact decide_eq_false (by omega)
  unfold encB encE;rw[e];rfl
 have h1:=of_decide_eq_false h1;have e:dv k g l f u=true:=by unfold dv;rw[h,Bool.true_and];exact decide_eq_true (by omega)
 have hmay:=hm.1;unfold mayC at hmay;simp only[Bool.and_eq_true,decide_eq_true_eq]at hmay;have hk:k.length≤64:=by omega
 have hg:g.length=32:=by have:=beq_iff_eq.1 hmay.2.2.1;omega
 have hsp:(bF k).length≤72:=by
  have a:=bi 4 k;have b:=bi 48 (putB 4 k);unfold bF;split
  ·simp
  ·split
   ·simp
   ·omega
 have hF:(l.map bh).flatten.length≤64*300:=by
  have:=gY (l.map bh) 300 (fun s hs=>by
   obtain⟨t,ht,rfl⟩:=List.mem_map.1 hs;have:=gg (List.all_eq_true.1 hm.2 t ht);have b:=bi 130 t;unfold bh;omega)
  rw[List.length_map]at this;have h64:l.length≤64:=by omega
  exact Nat.le_trans this (Nat.mul_le_mul_right _ h64)
 have hf8:=fI f;have hu8:=fI u;have hca:(cX ca).length≤1:=by cases ca<;>exact Nat.le_refl _
 have b1:=bi 4 g;have b2:=bi 2 (intL f);have b3:=bi 2 (intL u);have b4:=bi 1 (cX ca);have b5:=bi 48 (l.map bh).flatten;have oi:∀z:Int,0≤z→z≤1099511627776→okI z=true:=fun z h1 h2=>by
  unfold okI;rw[decide_eq_true (by omega),decide_eq_true (by omega)];rfl
 have hin:(bF k++putB 4 g++putB 48 (l.map bh).flatten++putB 2 (intL f)++putB 2 (intL u)++putB 1 (cX ca))=dk k g l f u ca:=by
  unfold dk;simp only[List.flatten_cons,List.flatten_nil,List.append_assoc,List.append_nil]
 rw[hin];refine⟨ma ⟨k,g,x,l.length,strs l,f,u,ca⟩ [] 0,aa ?_ (fun j=>?_)⟩
 ·unfold iZ allP;simp only[Bool.and_eq_true,ar];exact⟨fj hl,hm.2,Nat.ble_eq_true_of_le (Nat.zero_le _),Nat.ble_eq_true_of_le (by omega),Nat.ble_eq_true_of_le (Nat.zero_le _)⟩
 ·refine aa (Nat.ble_eq_true_of_le (by omega)) (aa (Nat.ble_eq_true_of_le (by simp only[List.length_append];omega)) (aa (oi f hmay.2.2.2.1 hmay.2.2.2.2.1) (aa (Nat.ble_eq_true_of_le (by simp only[List.length_append];omega)) (aa (oi u hmay.2.2.2.2.2.1 hmay.2.2.2.2.2.2) (aa (Nat.ble_eq_true_of_le (by simp only[List.length_append];omega)) (aa (Nat.ble_eq_true_of_le (by simp only[List.length_append];omega)) ?_))))));unfold encB encE;rw[e];refine ab (fun h=>?_) (fun h=>?_)<;>(rw[h];rfl)
def ew:List V→St→Option (List (Bool×(V×St)))
 |[.agg [.str k,.str g,p,.int .i64 f,.int .i64 u,.bool ca]],st=>match bq st p with
  |some (b,l)=>some [(b&&(Nat.ble l.length 9223372036854775807&&l.all aN),(.tuple [.str (encB k g l f u ca),.int .i64 (encE k g l f u ca)],st))]
  |none=>none
 |_,_=>none
theorem rencG_ok(args:List V)(s:St)(l:List (Bool×(V×St)))(o:V×St)(h:ew args s=some l)(ho:aC l=some o):FnSat Tryd.prog 10 args s (Is o):=by
 unfold ew at h;split at h
 ·rename_i k g p f u ca;split at h
  ·rename_i b ls hv;cases h;obtain⟨hb,rfl⟩:=aX ho;simp only[Bool.and_eq_true]at hb;obtain⟨rfl,h1,h2⟩:=hb;refine fJ rfl fun B W0 w m rargs hr ha=>?_;obtain⟨a,r,q1,q2,rfl⟩:=ao ha;simp only[ae,Option.some.injEq]at q2;subst q2;obtain⟨y,hy⟩:=eg hr hv q1;exact⟨[.agg [.str k,.str g,lstS y ls,.int .i64 f,.int .i64 u,.bool ca]],by simp only[ae,hy],@renc_sat (Frz.of w) k g y ls f u ca (Nat.le_of_ble_eq_true h1) h2⟩
  ·cases h
 ·cases h
def catI:List IT→List UInt8
 |[]=>[]
 |x::r=>putB x.1 x.2++catI r
def fp(x:IT):Prop:=ec x.1=true∧putE x.1 x.2=0
theorem get_cat{x:IT}(h:fp x)(s:List UInt8)(hl:(putB x.1 x.2++s).length≤1099511627776):aH (putB x.1 x.2++s)=0∧bo (putB x.1 x.2++s)=x.1∧ag (putB x.1 x.2++s)=x.2∧bJ (putB x.1 x.2++s)=s:=by
 obtain⟨a,b,c,d⟩:=put_get (s:=s) h.1 h.2;obtain⟨e1,e2,e3,e4⟩:=get2_eq hl;rw[e1,e2,e3,e4];exact⟨a,b,c,d⟩
theorem put_ne{x:IT}(h:fp x)(s:List UInt8):putB x.1 x.2++s≠[]:=by
 intro e;have:=(List.append_eq_nil_iff.1 e).1;exact(put_none.2 this) h.2
theorem alF_catI:∀(L acc:List IT) (k:Nat),(∀x∈L,fp x)→(catI L).length≤k→(catI L).length≤1099511627776→acc.length+L.length≤64→alF k (catI L) acc=(acc++L,0)
 |[],acc,k,_,_,_,_=>by
  cases k with
  |zero=>simp[alF]
  |succ k=>simp[catI,alF]
 |x::r,acc,k,hg,hk,hb,hn=>by
  have h1:=hg x (by simp);have hne:=put_ne h1 (catI r);simp only[catI]at hk hb ⊢;obtain⟨e1,e2,e3,e4⟩:=get_cat h1 (catI r) hb;cases k with
  |zero=>exact absurd (List.eq_nil_of_length_eq_zero (by omega)) hne
  |succ k=>
   have hlt:=eH hne;rw[e4]at hlt;rw[alF,if_neg hne,if_pos e1,e2,e3,e4];simp only[List.length_cons]at hn;rw[if_neg (by omega)];rw[alF_catI r (acc++[(x.1,x.2)]) k (fun y hy=>hg y (by simp[hy])) (by omega) (by omega) (by rw[List.length_append];simp;omega)];simp
theorem all_catI{L:List IT}(hg:∀x∈L,fp x)(hb:(catI L).length≤1099511627776)(hn:L.length≤64):allI (catI L)=L∧allE (catI L)=0:=by
 have:=alF_catI L [] (catI L).length hg (Nat.le_refl _) hb (by simpa using hn);unfold allI allE;rw[this];exact⟨rfl,rfl⟩
theorem get_good{s:List UInt8}(h:aH s=0)(hl:s.length≤1099511627776):fp (bo s,ag s)∧putB (bo s) (ag s)++bJ s=s:=by
 obtain⟨e1,e2,e3,e4⟩:=get2_eq hl;rw[e1]at h;obtain⟨a,b,c⟩:=get_put h;rw[e2,e3,e4];exact⟨⟨a,b⟩,c⟩
theorem oD(s:List UInt8):(ag s).length≤s.length:=by
 unfold ag;split
 ·simp only[List.length_take,List.length_drop];omega
 ·exact Nat.zero_le _
theorem alF_inv:∀(k:Nat) (s:List UInt8) (acc L:List IT),s.length≤k→s.length≤1099511627776→alF k s acc=(L,0)→∃M,L=acc++M∧s=catI M∧∀x∈M,fp x
 |0,s,acc,L,hk,_,h=>by
  have:s=[]:=List.eq_nil_of_length_eq_zero (by omega);rw[alF]at h;cases h;exact⟨[],by simp,this,by simp⟩
 |k+1,s,acc,L,hk,hb,h=>by
  rw[alF]at h;by_cases hs:s=[]
  ·rw[if_pos hs]at h;cases h;exact⟨[],by simp,hs,by simp⟩
  ·rw[if_neg hs]at h;by_cases h0:aH s=0
   ·rw[if_pos h0]at h;by_cases ha:acc.length=64
    ·rw[if_pos ha]at h;simp at h
    ·rw[if_neg ha]at h;have hlt:=eH hs;obtain⟨M,m1,m2,m3⟩:=alF_inv k (bJ s) _ L (by omega) (by omega) h;obtain⟨g1,g2⟩:=get_good h0 hb;refine⟨(bo s,ag s)::M,by rw[m1];simp,?_,fun x hx=>?_⟩
     ·simp only[catI];rw[←m2,g2]
     ·rcases List.mem_cons.1 hx with rfl|hx
      ·exact g1
      ·exact m3 x hx
   ·rw[if_neg h0]at h;injection h with _ h
    exact absurd h h0
theorem qo{s:List UInt8}(hb:s.length≤1099511627776)(h:allE s=0):s=catI (allI s)∧∀x∈allI s,fp x:=by
 obtain⟨M,m1,m2,m3⟩:=alF_inv s.length s [] (allI s) (Nat.le_refl _) hb (by rw[all_eq s,h]);rw[List.nil_append]at m1;rw[m1];exact⟨m2,m3⟩
theorem only_put{t:Int}{x:List UInt8}(h:fp (t,x))(hl:(putB t x).length≤1099511627776):dA (putB t x) t=true∧ag (putB t x)=x:=by
 have:=get_cat h [] (by simpa using hl);simp only[List.append_nil]at this;obtain⟨a,b,c,d⟩:=this;unfold dA;rw[a,b,c,d];exact⟨by simp,rfl⟩
theorem only_inv{s:List UInt8}{t:Int}(hb:s.length≤1099511627776)(h:dA s t=true):s=putB t (ag s)∧fp (t,ag s):=by
 unfold dA at h;simp only[Bool.and_eq_true]at h;have h1:aH s=0:=by simpa using h.1
 have h2:bJ s=[]:=by simpa using h.2.1
 have h3:bo s=t:=by simpa using h.2.2
 obtain⟨g1,g2⟩:=get_good h1 hb;rw[h2,List.append_nil,h3]at g2;rw[h3]at g1;exact⟨g2.symm,g1⟩
theorem sizeE_nn(s:List UInt8):0≤cW s:=by
 unfold cW bG
 (repeat' split)<;>simp
theorem getE2_nn(s:List UInt8):0≤aH s:=by
 cases s with
 |nil=>simp[aH]
 |cons t r=>
  have:=sizeE_nn r;simp only[aH]
  (repeat' split)<;>omega
theorem alF_nn:∀(k:Nat) (s:List UInt8) (acc:List IT),0≤(alF k s acc).2
 |0,s,acc=>by rw[alF];exact Int.le_refl 0
 |k+1,s,acc=>by
  rw[alF];split
  ·exact Int.le_refl 0
  ·split
   ·split
    ·simp
    ·exact alF_nn k _ _
   ·exact getE2_nn s
theorem allE_nn(s:List UInt8):0≤allE s:=alF_nn _ _ _
theorem readE_nn(s:List UInt8):0≤aM s:=by
 unfold aM
 (repeat' split)<;>simp
theorem rbE_nn(s:List UInt8):0≤rbE s:=by
 unfold rbE;split<;>simp
theorem m2_le(x y:Int):x≤m2 x y∧y≤m2 x y:=by
 unfold m2;split<;>omega
theorem pO:m2 0 0=0:=by unfold m2;simp
theorem o7:ec 48=true∧ec 4=true∧ec 130=true∧ec 2=true∧ec 1=true:=by decide
theorem eV{t:Int}{x:List UInt8}(ht:ec t=true)(h1:¬t%32=31)(h2:x.length≤65535):fp (t,x):=by
 refine⟨ht,?_⟩;unfold putE;rw[if_neg h1,if_neg (by simp only;omega)]
theorem km:∀l:List (List UInt8),(l.map bh).flatten=catI (l.map fun s=>((130:Int),s))
 |[]=>rfl
 |s::r=>by simp only[List.map_cons,List.flatten_cons,catI,km r];rfl
theorem oQ:∀L:List IT,L.all (fun y=>y.1==130)=true→catI L=((L.map (·.2)).map bh).flatten
 |[],_=>rfl
 |x::r,h=>by
  simp only[List.all_cons,Bool.and_eq_true]at h;have h1:x.1=130:=by simpa using h.1
  simp only[catI,List.map_cons,List.flatten_cons,oQ r h.2,bh,h1]
theorem iv{k g:List UInt8}{f u:Int}(h:mayC k g f u=true):k≠[]∧k.length≤64∧g.length=32∧0≤f∧f≤1099511627776∧0≤u∧u≤1099511627776:=by
 unfold mayC at h;simp only[Bool.and_eq_true,decide_eq_true_eq,beq_iff_eq]at h;refine⟨fun e=>by subst e;simp at h,by omega,by omega,by omega,by omega,by omega,by omega⟩
theorem spki_may{k:List UInt8}(h0:k≠[])(h1:k.length≤64):bF k=putB 48 (putB 4 k):=by
 unfold bF;rw[if_neg h0,if_neg (by omega)]
def sixI(k g:List UInt8)(l:List (List UInt8))(f u:Int)(ca:Bool):List IT:=[(48,putB 4 k),(4,g),(48,(l.map bh).flatten),(2,intL f),(2,intL u),(1,cX ca)]
theorem oL{k g:List UInt8}{l:List (List UInt8)}{f u:Int}{ca:Bool}(h0:k≠[])(h1:k.length≤64):dk k g l f u ca=catI (sixI k g l f u ca):=by
 unfold dk sixI;rw[spki_may h0 h1];simp only[catI,List.flatten_cons,List.flatten_nil,List.append_nil]
theorem bool_back(ca:Bool):(cX ca==[255])=ca∧rbE (cX ca)=0:=by cases ca<;>exact⟨rfl,rfl⟩
theorem enc_ok{k g:List UInt8}{l:List (List UInt8)}{f u:Int}{ca:Bool}(h:encE k g l f u ca=0):dv k g l f u=true∧encB k g l f u ca=putB 48 (dk k g l f u ca)∧(encB k g l f u ca).length≤512:=by
 unfold encE at h;cases ho:dv k g l f u with
 |false=>rw[ho]at h;simp at h
 |true=>
  rw[ho,cond_true]at h;cases hd:decide (((putB 48 (dk k g l f u ca)).length:Int)>512)with
  |true=>rw[hd]at h;simp at h
  |false=>
   have:=of_decide_eq_false hd;refine⟨rfl,?_,?_⟩
   ·unfold encB;rw[ho,hd];rfl
   ·unfold encB;rw[ho,hd];simp only[cond_true,cond_false];omega
theorem ji{k g:List UInt8}{l:List (List UInt8)}{f u:Int}(h:dv k g l f u=true):mayC k g f u=true∧l.all patN=true∧l.length≤64:=by
 unfold dv at h;simp only[Bool.and_eq_true,decide_eq_true_eq]at h;exact⟨h.1.1,h.1.2,by omega⟩
theorem six_good{k g:List UInt8}{l:List (List UInt8)}{f u:Int}{ca:Bool}(h:dv k g l f u=true)(hb:(dk k g l f u ca).length≤65535):(∀x∈sixI k g l f u ca,fp x)∧(∀x∈l.map (fun s=>((130:Int),s)),fp x):=by
 obtain⟨h1,h2,h3⟩:=ji h;obtain⟨c1,c2,c3,c4,c5,c6,c7⟩:=iv h1;obtain⟨t1,t2,t3,t4,t5⟩:=o7;have p4:=bi 4 k;have hf8:=fI f;have hu8:=fI u;have hca:(cX ca).length≤1:=by cases ca<;>exact Nat.le_refl _
 have hN:(l.map bh).flatten.length≤65535:=by
  have:=gY (l.map bh) 300 (fun s hs=>by
   obtain⟨t,ht,rfl⟩:=List.mem_map.1 hs;have:=gg (List.all_eq_true.1 h2 t ht);have b:=bi 130 t;unfold bh;omega)
  rw[List.length_map]at this;have:l.length*300≤64*300:=Nat.mul_le_mul_right _ h3;omega
 constructor
 ·intro x hx;simp only[sixI,List.mem_cons,List.not_mem_nil,or_false]at hx;rcases hx with rfl|rfl|rfl|rfl|rfl|rfl
  ·exact eV t1 (by decide) (by omega)
  ·exact eV t2 (by decide) (by omega)
  ·exact eV t1 (by decide) hN
  ·exact eV t4 (by decide) (by omega)
  ·exact eV t4 (by decide) (by omega)
  ·exact eV t5 (by decide) (by omega)
 ·intro x hx;obtain⟨s,hs,rfl⟩:=List.mem_map.1 hx;have:=gg (List.all_eq_true.1 h2 s hs);exact eV t3 (by decide) (by omega)
theorem jF{t:Int}{x:List UInt8}(h:putE t x=0):x.length≤(putB t x).length:=by
 unfold putE at h;unfold putB;by_cases h1:t%32=31
 ·rw[if_pos h1]at h;simp at h
 ·rw[if_neg h1]at h ⊢;by_cases h2:x.length>65535
  ·rw[if_pos h2]at h;simp at h
  ·rw[if_neg h2];simp;omega
theorem enc_len{k g:List UInt8}{l:List (List UInt8)}{f u:Int}{ca:Bool}(h:encE k g l f u ca=0):(dk k g l f u ca).length≤512:=by
 obtain⟨h1,h2,h3⟩:=enc_ok h;obtain⟨m1,m2,m3⟩:=ji h1;rw[h2]at h3;by_cases hp:putE 48 (dk k g l f u ca)=0
 ·have:=jF hp;omega
 ·exfalso;have hx:(dk k g l f u ca).length>65535:=by
   unfold putE at hp;rw[if_neg (by decide)]at hp;by_cases h2:(dk k g l f u ca).length>65535
   ·exact h2
   ·rw[if_neg h2]at hp;exact absurd rfl hp
  obtain⟨c1,c2,c3,c4,c5,c6,c7⟩:=iv m1;have hsp:=spki_may c1 c2;have q1:=bi 4 k;have q2:=bi 48 (putB 4 k);have q3:=bi 4 g;have q4:=bi 2 (intL f);have q5:=bi 2 (intL u);have q6:=bi 1 (cX ca);have q7:=bi 48 (l.map bh).flatten;have hf8:=fI f;have hu8:=fI u;have hca:(cX ca).length≤1:=by cases ca<;>exact Nat.le_refl _
  have:=gY (l.map bh) 300 (fun s hs=>by
   obtain⟨t,ht,rfl⟩:=List.mem_map.1 hs;have:=gg (List.all_eq_true.1 m2 t ht);have b:=bi 130 t;unfold bh;omega)
  rw[List.length_map]at this;have:l.length*300≤64*300:=Nat.mul_le_mul_right _ m3;unfold dk at hx;rw[hsp]at hx;simp only[List.flatten_cons,List.flatten_nil,List.length_append,List.length_nil]at hx;omega
theorem enc_dec{k g:List UInt8}{l:List (List UInt8)}{f u:Int}{ca:Bool}(h:encE k g l f u ca=0):decR (encB k g l f u ca)=some ⟨k,g,l,f,u,ca⟩:=by
 obtain⟨h1,h2,h3⟩:=enc_ok h;obtain⟨m1,m2,m3⟩:=ji h1;obtain⟨c1,c2,c3,c4,c5,c6,c7⟩:=iv m1;have hin:=enc_len h;obtain⟨g1,g2⟩:=six_good (ca:=ca) h1 (by omega);have hgE:fp (48,dk k g l f u ca):=eV o7.1 (by decide) (by omega);rw[h2]at h3 ⊢;obtain⟨o1,o2⟩:=only_put hgE (by omega);have hcat:=oL (g:=g) (l:=l) (f:=f) (u:=u) (ca:=ca) c1 c2;obtain⟨a1,a2⟩:=all_catI g1 (by rw[←hcat];omega) (by simp[sixI]);have hk:fp (4,k):=eV o7.2.1 (by decide) (by omega);obtain⟨k1,k2⟩:=only_put hk (by have:=bi 4 k;omega);have hnl:(l.map bh).flatten.length≤512:=by
  have:(l.map bh).flatten.length≤(dk k g l f u ca).length:=by
   have hg3:(l.map bh).flatten.length≤(putB 48 (l.map bh).flatten).length:=jF (g1 (48,(l.map bh).flatten) (by simp[sixI])).2;unfold dk;simp only[List.flatten_cons,List.flatten_nil,List.length_append,List.length_nil];omega
  omega
 obtain⟨n1,n2⟩:=all_catI g2 (by rw[←km];omega) (by rw[List.length_map];exact m3);obtain⟨r1,r2⟩:=read_int (n:=f) (by omega) (by omega);obtain⟨r3,r4⟩:=read_int (n:=u) (by omega) (by omega);obtain⟨b1,b2⟩:=bool_back ca;have hmap:(l.map fun s=>((130:Int),s)).map (·.2)=l:=by rw[List.map_map];simp[Function.comp_def]
 have hall:(l.map fun s=>((130:Int),s)).all (fun y=>y.1==130)=true:=by rw[List.all_eq_true];intro y hy;obtain⟨s,_,rfl⟩:=List.mem_map.1 hy;rfl
 unfold decR;rw[decide_eq_false (by omega),cond_false];unfold decC;rw[o1,o2,hcat,a1,a2];have e0:((0:Int)!=0)=false:=rfl;rw[e0,cond_true,cond_false];unfold sixI decT;simp only
 rw[k1,k2,km,n1,n2,r1,r3,b2,pO,pO,pO,e0,hall,hmap,r2,r4,m1,m2,b1];rfl
theorem iQ{α:Type}{b:Bool}{x y:Option α}{z:Option α}(h:(bif b then x else y)=z):(b=true∧x=z)∨(b=false∧y=z):=by
 cases b with
 |true=>exact .inl ⟨rfl,h⟩
 |false=>exact .inr ⟨rfl,h⟩
theorem dec_enc{s:List UInt8}{c:CD}(h:decR s=some c):encE c.k c.g c.l c.f c.u c.ca=0∧encB c.k c.g c.l c.f c.u c.ca=s∧(mayC c.k c.g c.f c.u&&c.l.all patN)=true∧s.length≤512∧c.l.length≤64:=by
 unfold decR at h;cases hl:decide ((s.length:Int)>512)with
 |true=>rw[hl]at h;cases h
 |false=>
 rw[hl,cond_false]at h;have hl:=of_decide_eq_false hl;have hs:s.length≤512:=by omega
 unfold decC at h;cases ho:dA s 48 with
 |false=>rw[ho]at h;cases h
 |true=>
 rw[ho,cond_true]at h;cases hE:(allE (ag s)!=0)with
 |true=>rw[hE]at h;cases h
 |false=>
 rw[hE,cond_false]at h;have hE:allE (ag s)=0:=by simpa using hE
 obtain⟨o1,o2⟩:=only_inv (by omega) ho;have hx:=oD s;obtain⟨i1,i2⟩:=qo (by omega) hE;unfold decT at h;split at h
 ·rename_i x0 x1 x2 x3 x4 x5 hI;rw[hI]at i1 i2;rcases iQ h with⟨t,h⟩|⟨_,h⟩
  rotate_left
  ·cases h
  simp only[Bool.and_eq_true,beq_iff_eq]at t;rcases iQ h with⟨hk,h⟩|⟨_,h⟩
  rotate_left
  ·cases h
  rcases iQ h with⟨_,h⟩|⟨hm,h⟩
  ·cases h
  rcases iQ h with⟨ha,h⟩|⟨_,h⟩
  rotate_left
  ·cases h
  rcases iQ h with⟨hmay,h⟩|⟨_,h⟩
  rotate_left
  ·cases h
  injection h with h
  subst h;have hm:m2 (m2 (m2 (allE x2.2) (aM x3.2)) (aM x4.2)) (rbE x5.2)=0:=by simpa using hm
  have l1:=m2_le (m2 (m2 (allE x2.2) (aM x3.2)) (aM x4.2)) (rbE x5.2);have l2:=m2_le (m2 (allE x2.2) (aM x3.2)) (aM x4.2);have l3:=m2_le (allE x2.2) (aM x3.2);have n1:=allE_nn x2.2;have n2:=readE_nn x3.2;have n3:=readE_nn x4.2;have n4:=rbE_nn x5.2;have z1:allE x2.2=0:=by omega
  have z2:aM x3.2=0:=by omega
  have z3:aM x4.2=0:=by omega
  have z4:rbE x5.2=0:=by omega
  have hlen:(ag s).length≤512:=by omega
  rw[i1]at hlen;have g0:=jF (i2 x0 (by simp)).2;have g2:=jF (i2 x2 (by simp)).2;simp only[catI,List.length_append]at hlen;obtain⟨k1,k2⟩:=only_inv (s:=x0.2) (by omega) hk;obtain⟨j1,j2⟩:=qo (s:=x2.2) (by omega) z1;rw[Bool.and_eq_true]at hmay;obtain⟨c1,c2,c3,c4,c5,c6,c7⟩:=iv hmay.1;have hca:cX (x5.2==[255])=x5.2:=by
   unfold rbE at z4;by_cases hq:x5.2=[255]∨x5.2=[0]
   ·rcases hq with hq|hq<;>rw[hq]<;>rfl
   ·rw[if_neg hq]at z4;simp at z4
  have hin:dk (ag x0.2) x1.2 ((allI x2.2).map (·.2)) (aA x3.2) (aA x4.2) (x5.2==[255])=ag s:=by
   rw[oL c1 c2,i1];unfold sixI;rw[←k1,←oQ _ ha,←j1,nQ z2,nQ z3,hca];simp only[catI];rw[t.1,t.2.1,t.2.2.1,t.2.2.2.1,t.2.2.2.2.1,t.2.2.2.2.2]
  have hok:dv (ag x0.2) x1.2 ((allI x2.2).map (·.2)) (aA x3.2) (aA x4.2)=true:=by
   unfold dv;rw[hmay.1,hmay.2,Bool.true_and];have:=el x2.2;exact decide_eq_true (by rw[List.length_map];omega)
  have hlen2:decide (((putB 48 (ag s)).length:Int)>512)=false:=by rw[←o1];exact decide_eq_false (by omega)
  refine⟨?_,?_,?_,hs,?_⟩
  ·unfold encE;rw[hok,hin,hlen2];rfl
  ·unfold encB;rw[hok,hin,hlen2];show putB 48 (ag s)=s;exact o1.symm
  ·simp only[hmay.1,hmay.2];rfl
  ·simp only[List.length_map];exact el x2.2
 ·cases h
noncomputable def lk73G(ML:Nat→Nat→List V→W8→W8):Nat→Trans→Trans:=aU 58 (bp 0 (szOf Tryd.prog 83) [2,3,4,5,13] mxDec iL mxV mxJ (mxOutG ML)) (ac 9)
noncomputable def lk73:Nat→Trans→Trans:=lk73G mixL
theorem mx_loop{f:Fr}{st:St}{Q:Exit→Fr→St→Prop}(h:bp 0 (szOf Tryd.prog 83) [2,3,4,5,13] mxDec iL mxV mxJ mxOut f st Q):CodeSatW Tryd.prog none 0 (.loop (bH Tryd.prog 83 58)) f st Q:=
 aW (P:=Tryd.prog) (T:=T1) (k:=0) (lim:=9) (n:=10) (g:=83) (p0:=58) (lk:=ac 9) ax T1_ok (aQ 9 _ _) mxMu mx_roundOk h
theorem lk73_ok:aE Tryd.prog 0 lk73 83:=by
 unfold lk73 lk73G;exact bt (aR 9 0 83) (by kernel_rfl) fun f st Q h=>mx_loop h
noncomputable def T2(ML:Nat→Nat→List V→W8→W8):Tab:=⟨addP noT 114 rotF,noL,cG (aV 9) 83 0 (lk73G ML)⟩
theorem T2_ok:TabOk3 Tryd.prog (T2 mixL):=⟨aS aF rot_ok,aG,bn (ap 9) lk73_ok⟩
noncomputable def zA_0(a b c d e f g h:Int):=[V.int u32 a,V.int u32 b,V.int u32 c,V.int u32 d,V.int u32 e,V.int u32 f,V.int u32 g,V.int u32 h]
noncomputable def zA_1:=[V.int u32 0,V.int u32 0,V.int u32 0,V.int u32 0,V.int u32 0,V.int u32 0,V.int u32 0,V.int u32 0]
theorem mix_tree(ML:Nat→Nat→List V→W8→W8)(a b c d e f g h:Int)(ws:List V)(R:V→St→Prop):runM Tryd.prog (T2 ML) 9 10 83 [.agg [.int .u32 a,.int .u32 b,.int .u32 c,.int .u32 d,.int .u32 e,.int .u32 f,.int .u32 g,.int .u32 h],.agg ws] R=
 (
 Fits 0 [.ptr 0 0,.ptr 1 0,.ptr 2 0,.ptr 3 0,.int i64 0] [.row (zA_0 a b c d e f g h) 104 8,.row ws 108 ws.length,.row zA_1 104 8,
 .row (zA_0 a b c d e f g h) 104 8] [some (.ptr 0 0),some (.ptr 1 0),some (.ptr 2 0),some (.ptr 3 0),some (.int i64 0)] [.row (zA_0 a b c d
 e f g h) 104 8,.row ws 108 ws.length,.row zA_1 104 8,.row (zA_0 a b c d e f g h) 104 8]∧bif iL
 {x:={a:=a,b:=b,c:=c,d:=d,e:=e,f:=f,g:=g,h:=h},l:=ws,m:=ws.length,r:={a:=0,b:=0,c:=0,d:=0,e:=0,f:=0,g:=0,h:=0},was:={a:=a,b:=b,c:=c,d:=d,e:=e,f:=f,g:=g,h:=h},j:=0}
 then R (.agg [.int u32 (u32.wrap ((ML 64 0 ws {a:=a,b:=b,c:=c,d:=d,e:=e,f:=f,g:=g,h:=h}).a+a)),.int u32
 (u32.wrap ((ML 64 0 ws {a:=a,b:=b,c:=c,d:=d,e:=e,f:=f,g:=g,h:=h}).b+b)),.int u32 (u32.wrap ((ML 64 0 ws
 {a:=a,b:=b,c:=c,d:=d,e:=e,f:=f,g:=g,h:=h}).c+c)),.int u32 (u32.wrap ((ML 64 0 ws
 {a:=a,b:=b,c:=c,d:=d,e:=e,f:=f,g:=g,h:=h}).d+d)),.int u32 (u32.wrap ((ML 64 0 ws
 {a:=a,b:=b,c:=c,d:=d,e:=e,f:=f,g:=g,h:=h}).e+e)),.int u32 (u32.wrap ((ML 64 0 ws
 {a:=a,b:=b,c:=c,d:=d,e:=e,f:=f,g:=g,h:=h}).f+f)),.int u32 (u32.wrap ((ML 64 0 ws
 {a:=a,b:=b,c:=c,d:=d,e:=e,f:=f,g:=g,h:=h}).g+g)),.int u32 (u32.wrap ((ML 64 0 ws
 {a:=a,b:=b,c:=c,d:=d,e:=e,f:=f,g:=g,h:=h}).h+h))]) [.row [.int u32 (u32.wrap ((ML 64 0 ws
 {a:=a,b:=b,c:=c,d:=d,e:=e,f:=f,g:=g,h:=h}).a+a)),.int u32 (u32.wrap ((ML 64 0 ws
 {a:=a,b:=b,c:=c,d:=d,e:=e,f:=f,g:=g,h:=h}).b+b)),.int u32 (u32.wrap ((ML 64 0 ws
 {a:=a,b:=b,c:=c,d:=d,e:=e,f:=f,g:=g,h:=h}).c+c)),.int u32 (u32.wrap ((ML 64 0 ws
 {a:=a,b:=b,c:=c,d:=d,e:=e,f:=f,g:=g,h:=h}).d+d)),.int u32 (u32.wrap ((ML 64 0 ws
 {a:=a,b:=b,c:=c,d:=d,e:=e,f:=f,g:=g,h:=h}).e+e)),.int u32 (u32.wrap ((ML 64 0 ws
 {a:=a,b:=b,c:=c,d:=d,e:=e,f:=f,g:=g,h:=h}).f+f)),.int u32 (u32.wrap ((ML 64 0 ws
 {a:=a,b:=b,c:=c,d:=d,e:=e,f:=f,g:=g,h:=h}).g+g)),.int u32 (u32.wrap ((ML 64 0 ws
 {a:=a,b:=b,c:=c,d:=d,e:=e,f:=f,g:=g,h:=h}).h+h))] 104 8,.row ws 108 ws.length,.row [.int u32 (u32.wrap ((ML
 64 0 ws {a:=a,b:=b,c:=c,d:=d,e:=e,f:=f,g:=g,h:=h}).a+a)),.int u32 (u32.wrap ((ML 64 0 ws
 {a:=a,b:=b,c:=c,d:=d,e:=e,f:=f,g:=g,h:=h}).b+b)),.int u32 (u32.wrap ((ML 64 0 ws
 {a:=a,b:=b,c:=c,d:=d,e:=e,f:=f,g:=g,h:=h}).c+c)),.int u32 (u32.wrap ((ML 64 0 ws
 {a:=a,b:=b,c:=c,d:=d,e:=e,f:=f,g:=g,h:=h}).d+d)),.int u32 (u32.wrap ((ML 64 0 ws
 {a:=a,b:=b,c:=c,d:=d,e:=e,f:=f,g:=g,h:=h}).e+e)),.int u32 (u32.wrap ((ML 64 0 ws
 {a:=a,b:=b,c:=c,d:=d,e:=e,f:=f,g:=g,h:=h}).f+f)),.int u32 (u32.wrap ((ML 64 0 ws
 {a:=a,b:=b,c:=c,d:=d,e:=e,f:=f,g:=g,h:=h}).g+g)),.int u32 (u32.wrap ((ML 64 0 ws
 {a:=a,b:=b,c:=c,d:=d,e:=e,f:=f,g:=g,h:=h}).h+h))] 104 8,.row (zA_0 a b c d e f g h) 104 8]else False):=by kernel_rfl
def mixE(x:W8)(ws:List V):W8:=⟨addI (mixL 64 0 ws x).a x.a,addI (mixL 64 0 ws x).b x.b,addI (mixL 64 0 ws x).c x.c,addI (mixL 64 0 ws x).d x.d,addI (mixL 64 0 ws x).e x.e,addI (mixL 64 0 ws x).f x.f,addI (mixL 64 0 ws x).g x.g,addI (mixL 64 0 ws x).h x.h⟩
def mixF:List V→Option (List (Bool×(V×St)))
 |[.agg [.int .u32 a,.int .u32 b,.int .u32 c,.int .u32 d,.int .u32 e,.int .u32 f,.int .u32 g,.int .u32 h],.agg ws]=>some [(cg ws&&Nat.beq ws.length 64,(.agg (mixE ⟨a,b,c,d,e,f,g,h⟩ ws).cells,[]))]
 |_=>none
theorem mix_ok(args:List V)(l:List (Bool×(V×St)))(o:V×St)(h:mixF args=some l)(ho:aC l=some o):FnSat Tryd.prog 83 args [] (Is o):=by
 unfold mixF at h;split at h
 ·rename_i a b c d e f g h' ws;cases h;cases hc:(cg ws&&Nat.beq ws.length 64)with
  |false=>rw[hc]at ho;cases ho
  |true=>
   rw[hc]at ho;cases ho;rw[Bool.and_eq_true]at hc;refine FnSat.fits (gc (lim:=9) (n:=10) ax T2_ok ?_);rw[mix_tree];unfold zA_1 zA_0;refine⟨pK ⟨a,b,c,d,e,f,g,h'⟩ ws hc.1 ws.length ⟨0,0,0,0,0,0,0,0⟩ ⟨a,b,c,d,e,f,g,h'⟩ 0,aa ?_ ?_⟩
   ·unfold iL;rw[Bool.and_eq_true,Bool.and_eq_true];exact⟨hc.1,hc.2,rfl⟩
   ·exact⟨[],[.agg (mixE ⟨a,b,c,d,e,f,g,h'⟩ ws).cells],rfl,rfl,FitsM.of trivial,by simp,fun i hi=>by omega⟩
 ·cases h
noncomputable def zA_2(ws:List V)(j:Int):=ws.getD (0+(i64.wrap (j-15)).toNat*1) (V.bool false)
noncomputable def zA_3(ws:List V)(j:Int):=ws.getD (0+(i64.wrap (j-2)).toNat*1) (V.bool false)
theorem blk_round(la:List V)(off c z:Nat)(ws:List V)(j:Int)(R:Exit→List (Option V)→St→Prop):ah Tryd.prog T1 9 10 (ac 9) 84 26 [0,2,6] [.slice 0 off 64 false c z,.ptr 1 0,.int .i64 j] [.ro false la,.row ws 108 64] R=
 (
 bif decide (j<64)then bif decide (j<16)then bif decide (0≤i64.wrap (4*j))&&decide (i64.wrap (4*j)<64)then bif (off+
 (i64.wrap (4*j)).toNat*1).blt la.length then bif aq u8 (la.getD (off+(i64.wrap (4*j)).toNat*1) (.bool false))then bif
 decide (0≤i64.wrap (i64.wrap (4*j)+1))&&decide (i64.wrap (i64.wrap (4*j)+1)<64)then bif (off+(i64.wrap
 (i64.wrap (4*j)+1)).toNat*1).blt la.length then bif aq u8 (la.getD (off+(i64.wrap (i64.wrap (4*j)+1)).toNat*1)
 (.bool false))then bif decide (0≤i64.wrap (i64.wrap (4*j)+2))&&decide (i64.wrap (i64.wrap (4*j)+2)<64)then bif
 (off+(i64.wrap (i64.wrap (4*j)+2)).toNat*1).blt la.length then bif aq u8 (la.getD (off+(i64.wrap (i64.wrap
 (4*j)+2)).toNat*1) (.bool false))then bif decide (0≤i64.wrap (i64.wrap (4*j)+3))&&decide (i64.wrap (i64.wrap (4*
 j)+3)<64)then bif (off+(i64.wrap (i64.wrap (4*j)+3)).toNat*1).blt la.length then bif aq u8 (la.getD (off+
 (i64.wrap (i64.wrap (4*j)+3)).toNat*1) (.bool false))then bif decide (0≤j)&&decide (j<64)then bif true&&(0+j.toNat*1+
 1).ble ws.length then R .normal [some (.slice 0 off 64 false c z),some (.ptr 1 0),some (.int i64 (i64.wrap (j+1)))] [.ro false la,
 .row (cz (0+j.toNat*1) [.int u32 (u32.wrap (↑(BitVec.ofInt 32 (u32.wrap (↑(BitVec.ofInt 32 (u32.wrap (↑(BitVec.ofInt
 32 (u32.wrap (u32.wrap (af (la.getD (off+(i64.wrap (4*j)).toNat*1) (.bool false)))*16777216))|||BitVec.ofInt 32
 (u32.wrap (u32.wrap (af (la.getD (off+(i64.wrap (i64.wrap (4*j)+1)).toNat*1) (.bool false)))*65536))).toNat:
 Int))|||BitVec.ofInt 32 (u32.wrap (u32.wrap (af (la.getD (off+(i64.wrap (i64.wrap (4*j)+2)).toNat*1) (.bool
 false)))*256))).toNat:Int))|||BitVec.ofInt 32 (u32.wrap (af (la.getD (off+(i64.wrap (i64.wrap (4*j)+3)).toNat*1)
 (.bool false))))).toNat:Int))] ws) 108 64]else False else False else False else False else False else False else False else False else False else False else
 False else False else False else False else bif decide (0≤i64.wrap (j-15))&&decide (i64.wrap (j-15)<64)then bif (0+(i64.wrap
 (j-15)).toNat*1).blt ws.length then bif aq u32 (zA_2 ws j)then bif decide (0≤i64.wrap (j-2))&&decide (i64.wrap (j-2)<
 64)then bif (0+(i64.wrap (j-2)).toNat*1).blt ws.length then bif aq u32 (zA_3 ws j)then bif decide (0≤i64.wrap (j-16))&&
 decide (i64.wrap (j-16)<64)then bif (0+(i64.wrap (j-16)).toNat*1).blt ws.length then bif aq u32 (ws.getD (0+
 (i64.wrap (j-16)).toNat*1) (.bool false))then bif decide (0≤i64.wrap (j-7))&&decide (i64.wrap (j-7)<64)then bif (0+
 (i64.wrap (j-7)).toNat*1).blt ws.length then bif aq u32 (ws.getD (0+(i64.wrap (j-7)).toNat*1) (.bool false))then bif
 decide (0≤j)&&decide (j<64)then bif true&&(0+j.toNat*1+1).ble ws.length then R .normal [some (.slice 0 off 64 false c z),some (.ptr 1 0),
 some (.int i64 (i64.wrap (j+1)))] [.ro false la,.row (cz (0+j.toNat*1) [.int u32 (u32.wrap (u32.wrap
 (u32.wrap (af (ws.getD (0+(i64.wrap (j-16)).toNat*1) (.bool false))+af (ws.getD (0+(i64.wrap (j-7)).toNat*1)
 (.bool false)))+u32.wrap (↑(BitVec.ofInt 32 (u32.wrap (↑(BitVec.ofInt 32 (rotI (af (zA_2 ws j)) 7)^^^BitVec.ofInt 32 (rotI (af (zA_2
 ws j)) 18)).toNat:Int))^^^BitVec.ofInt 32 ((af (zA_2 ws j)).fdiv 8)).toNat:Int))+u32.wrap (↑(BitVec.ofInt 32 (u32.wrap
 (↑(BitVec.ofInt 32 (rotI (af (zA_3 ws j)) 17)^^^BitVec.ofInt 32 (rotI (af (zA_3 ws j)) 19)).toNat:Int))^^^BitVec.ofInt 32 ((af (zA_3 ws
 j)).fdiv 1024)).toNat:Int)))] ws) 108 64]else False else False else False else False else False else False else False else False else False else False else
 False else False else False else False else R (.exit 0) [some (.slice 0 off 64 false c z),some (.ptr 1 0),some (.int i64 j)] [.ro false la,
 .row ws 108 64]):=by kernel_rfl
def okB(la:List V)(off:Nat):Bool:=am la&&(Nat.ble (off+64) la.length&&((la.drop off).take 64).all (aq .u8))
theorem okB_len{la:List V}{off:Nat}(h:okB la off=true):off+64≤la.length:=by
 unfold okB at h;rw[Bool.and_eq_true,Bool.and_eq_true]at h;exact Nat.le_of_ble_eq_true h.2.1
theorem jH{la:List V}{off:Nat}(h:okB la off=true):am la=true:=by
 unfold okB at h;rw[Bool.and_eq_true]at h;exact h.1
theorem ad{la:List V}{off i:Nat}(h:okB la off=true)(hi:i<64):(off+i*1).blt la.length=true∧aq .u8 (la.getD (off+i*1) (.bool false))=true:=by
 have hl:=okB_len h;unfold okB at h;rw[Bool.and_eq_true,Bool.and_eq_true]at h;have h2:=h.2.2;clear h;rw[Nat.mul_one];refine⟨Nat.ble_eq_true_of_le (by omega),?_⟩;have hlt:off+i<la.length:=by omega
 rw[List.getD_eq_getElem?_getD,List.getElem?_eq_getElem hlt];refine List.all_eq_true.1 h2 _ ?_;rw[List.mem_iff_getElem?];exact⟨i,by rw[List.getElem?_take,if_pos hi,List.getElem?_drop];exact List.getElem?_eq_getElem hlt⟩
def bI(la:List V)(off i:Nat):Int:=af (la.getD (off+i*1) (.bool false))
def shI(b m:Int):Int:=u32.wrap (u32.wrap b*m)
def fB(la:List V)(off j:Nat):Int:=orI (orI (orI (shI (bI la off (4*j)) 16777216) (shI (bI la off (4*j+1)) 65536)) (shI (bI la off (4*j+2)) 256)) (u32.wrap (bI la off (4*j+3)))
def fR(ws:List V)(j:Nat):Int:=addI (addI (addI (wI ws (j-16)) (wI ws (j-7))) (xorI (xorI (rotI (wI ws (j-15)) 7) (rotI (wI ws (j-15)) 18)) ((wI ws (j-15)).fdiv 8))) (xorI (xorI (rotI (wI ws (j-2)) 17) (rotI (wI ws (j-2)) 19)) ((wI ws (j-2)).fdiv 1024))
def iE(la:List V)(off:Nat)(ws:List V)(j:Nat):Int:=if j<16 then fB la off j else fR ws j
def blkL(la:List V)(off:Nat):Nat→Nat→List V→List V
 |0,_,ws=>ws
 |n+1,j,ws=>blkL la off n (j+1) (cz j [.int .u32 (iE la off ws j)] ws)
theorem put_all32{ws:List V}{j:Nat}{x:Int}(h:cg ws=true)(hj:j<ws.length):cg (cz j [.int .u32 x] ws)=true∧(cz j [.int .u32 x] ws).length=ws.length:=by
 unfold cg at h ⊢;rw[List.all_eq_true]at h ⊢;refine⟨fun v hv=>?_,?_⟩
 ·unfold cz at hv;rcases List.mem_append.1 hv with hv|hv
  ·rcases List.mem_append.1 hv with hv|hv
   ·exact h v (List.mem_of_mem_take hv)
   ·rw[List.mem_singleton.1 hv];rfl
  ·exact h v (List.mem_of_mem_drop hv)
 ·unfold cz;simp only[List.length_append,List.length_take,List.length_drop,List.length_cons,List.length_nil];omega
def cn(f:Nat→Int):List V:=[.int .u32 (f 0),.int .u32 (f 1),.int .u32 (f 2),.int .u32 (f 3),.int .u32 (f 4),.int .u32 (f 5),.int .u32 (f 6),.int .u32 (f 7),.int .u32 (f 8),.int .u32 (f 9),.int .u32 (f 10),.int .u32 (f 11),.int .u32 (f 12),.int .u32 (f 13),.int .u32 (f 14),.int .u32 (f 15),.int .u32 (f 16),.int .u32 (f 17),.int .u32 (f 18),.int .u32 (f 19),.int .u32 (f 20),.int .u32 (f 21),.int .u32 (f 22),.int .u32 (f 23),.int .u32 (f 24),.int .u32 (f 25),.int .u32 (f 26),.int .u32 (f 27),.int .u32 (f 28),.int .u32 (f 29),.int .u32 (f 30),.int .u32 (f 31),.int .u32 (f 32),.int .u32 (f 33),.int .u32 (f 34),.int .u32 (f 35),.int .u32 (f 36),.int .u32 (f 37),.int .u32 (f 38),.int .u32 (f 39),.int .u32 (f 40),.int .u32 (f 41),.int .u32 (f 42),.int .u32 (f 43),.int .u32 (f 44),.int .u32 (f 45),.int .u32 (f 46),.int .u32 (f 47),.int .u32 (f 48),.int .u32 (f 49),.int .u32 (f 50),.int .u32 (f 51),.int .u32 (f 52),.int .u32 (f 53),.int .u32 (f 54),.int .u32 (f 55),.int .u32 (f 56),.int .u32 (f 57),.int .u32 (f 58),.int .u32 (f 59),.int .u32 (f 60),.int .u32 (f 61),.int .u32 (f 62),.int .u32 (f 63)]
theorem cells64_map(f:Nat→Int):cn f=(List.range 64).map fun i=>V.int .u32 (f i):=by kernel_rfl
theorem m4{ws:List V}(h:cg ws=true)(hl:ws.length=64):cn (wI ws)=ws:=by
 rw[cells64_map];apply List.ext_getElem?;intro i;rcases Nat.lt_or_ge i 64 with hi|hi
 ·rw[List.getElem?_map,List.getElem?_range hi,Option.map_some];have h1:=cM h (j:=i) (by omega);unfold wI;rw[List.getD_eq_getElem?_getD,List.getElem?_eq_getElem (by omega),Option.getD_some]at h1 ⊢;cases hv:ws[i]with
  |int k n=>
   rw[hv]at h1;have hk:k=.u32:=of_decide_eq_true h1;subst hk;rfl
  |_=>rw[hv]at h1;cases h1
 ·rw[List.getElem?_eq_none (by simp;omega),List.getElem?_eq_none (by omega)]
def blkF(la:List V)(off n j:Nat)(ws:List V):Nat→Int:=wI (blkL la off n j ws)
structure BX where
 la:List V
 off:Nat
 c:Nat
 z:Nat
 ws:List V
 j:Nat
def bxV(y:BX):List V:=[.slice 0 y.off 64 false y.c y.z,.ptr 1 0,.int .i64 y.j]
def bxJ(y:BX):St:=[.ro false y.la,.row y.ws 108 64]
def jZ(y:BX):Bool:=okB y.la y.off&&(cg y.ws&&(Nat.beq y.ws.length 64&&Nat.ble y.j 64))
def bxMu(y:BX):Nat:=64-y.j
def bxOutG(BL:List V→Nat→Nat→Nat→List V→Nat→Int):Asks BX:=fun y K=>K (.exit 0) [.slice 0 y.off 64 false y.c y.z,.ptr 1 0,.int .i64 64] [.ro false y.la,Blk.row (cn (BL y.la y.off (64-y.j) y.j y.ws)) 108 64]
abbrev bxOut:Asks BX:=bxOutG blkF
theorem qg(la:List V)(hf:am la=true)(off c z:Nat)(ws:List V)(hw:cg ws=true)(j:Int):Fits 1 [.slice 0 off 64 false c z,.ptr 1 0,.int .i64 j] [.ro false la,.row ws 108 64]
  [some (.slice 0 off 64 false c z),some (.ptr 1 0),some (.int .i64 j)] [.ro false la,.row ws 108 64]:=
 ⟨[0,1],[.slice 0 off 64 false c z,.ptr 1 0,.int .i64 j],rfl,rfl,FitsM.of ⟨.inr ⟨.ro false la,.inl (by simp only[renB,aB la hf]),rfl⟩,.inr ⟨.row ws 108 64,.inl (by simp only[renB,kF _ ws hw]),rfl⟩,trivial⟩,by decide,fun i hi=>by
   match i,hi with
   |0,_=>rfl⟩
theorem bx_roundOk(y:BX)(hy:jZ y=true):ah Tryd.prog T1 9 10 (ac 9) 84 26 [0,2,6] (bxV y) (bxJ y) (av 1 jZ bxV bxJ bxMu bxOut y):=by
 obtain⟨la,off,c,z,ws,j⟩:=y;unfold jZ at hy;rw[Bool.and_eq_true,Bool.and_eq_true,Bool.and_eq_true]at hy;have p0:okB la off=true:=hy.1;have p1:cg ws=true:=hy.2.1;have p2:ws.length=64:=Nat.eq_of_beq_eq_true hy.2.2.1;have p3:j≤64:=Nat.le_of_ble_eq_true hy.2.2.2;clear hy;have hf:=jH p0;show ah Tryd.prog T1 9 10 (ac 9) 84 26 [0,2,6] [.slice 0 off 64 false c z,.ptr 1 0,.int .i64 j] [.ro false la,.row ws 108 64] _;rw[blk_round];unfold zA_3 zA_2;cases hb:decide ((j:Int)<64)with
 |true=>
  have hj:j<64:=by have:=of_decide_eq_true hb;omega
  have e1:i64.wrap ((j:Int)+1)=((j+1:Nat):Int):=by rw[IntWalk.i64_in _ ⟨by omega,by omega⟩];omega
  have d1:decide ((0:Int)≤(j:Int))=true:=decide_eq_true (by omega);have d2:(true&&(0+j*1+1).ble ws.length)=true:=by rw[Bool.true_and];exact Nat.ble_eq_true_of_le (by omega)
  have e0:0+j*1=j:=by omega
  -- what stands behind a round
  have fin:∀x:Int,x=iE la off ws j→av 1 jZ bxV bxJ bxMu bxOut ⟨la,off,c,z,ws,j⟩ .normal [some (.slice 0 off 64 false c z),some (.ptr 1 0),some (.int .i64 ((j+1:Nat):Int))] [.ro false la,.row (cz j [.int .u32 x] ws) 108 64]:=by
   intro x hx;have hp:=put_all32 (x:=x) p1 (j:=j) (by omega);refine⟨⟨la,off,c,z,cz j [.int .u32 x] ws,j+1⟩,?_,qg la hf off c z _ hp.1 _,by simp only[bxMu];omega,fun K hK=>?_⟩
   ·unfold jZ;rw[Bool.and_eq_true,Bool.and_eq_true,Bool.and_eq_true];exact⟨p0,hp.1,by rw[hp.2,p2];rfl,Nat.ble_eq_true_of_le hj⟩
   ·have hK:K _ _ _:=hK;have h64:64-j=(64-(j+1))+1:=by omega
    rw[h64]at hK;rw[hx];exact hK
  cases hb2:decide ((j:Int)<16)with
  |true=>
   have hj2:j<16:=by have:=of_decide_eq_true hb2;omega
   have w0:i64.wrap (4*(j:Int))=((4*j:Nat):Int):=by rw[IntWalk.i64_in _ ⟨by omega,by omega⟩];omega
   have w1:i64.wrap (((4*j:Nat):Int)+1)=((4*j+1:Nat):Int):=by rw[IntWalk.i64_in _ ⟨by omega,by omega⟩];omega
   have w2:i64.wrap (((4*j:Nat):Int)+2)=((4*j+2:Nat):Int):=by rw[IntWalk.i64_in _ ⟨by omega,by omega⟩];omega
   have w3:i64.wrap (((4*j:Nat):Int)+3)=((4*j+3:Nat):Int):=by rw[IntWalk.i64_in _ ⟨by omega,by omega⟩];omega
   rw[w0,w1,w2,w3,e1];simp only[Int.toNat_natCast];rw[d1,d2,e0];have k:∀i:Nat,i<64→(decide ((0:Int)≤(i:Int))&&decide ((i:Int)<64))=true:=fun i hi=>by
    rw[Bool.and_eq_true];exact⟨decide_eq_true (by omega),decide_eq_true (by omega)⟩
   rw[cond_true,cond_true];refine aa (k _ (by omega)) (aa (ad p0 (by omega)).1 (aa (ad p0 (by omega)).2 ?_));refine aa (k _ (by omega)) (aa (ad p0 (by omega)).1 (aa (ad p0 (by omega)).2 ?_));refine aa (k _ (by omega)) (aa (ad p0 (by omega)).1 (aa (ad p0 (by omega)).2 ?_));refine aa (k _ (by omega)) (aa (ad p0 (by omega)).1 (aa (ad p0 (by omega)).2 ?_));refine aa rfl ?_;exact fin _ (by unfold iE;rw[if_pos hj2];rfl)
  |false=>
   have hj2:¬j<16:=by have:=of_decide_eq_false hb2;omega
   have w15:i64.wrap ((j:Int)-15)=((j-15:Nat):Int):=by rw[IntWalk.i64_in _ ⟨by omega,by omega⟩];omega
   have w2:i64.wrap ((j:Int)-2)=((j-2:Nat):Int):=by rw[IntWalk.i64_in _ ⟨by omega,by omega⟩];omega
   have w16:i64.wrap ((j:Int)-16)=((j-16:Nat):Int):=by rw[IntWalk.i64_in _ ⟨by omega,by omega⟩];omega
   have w7:i64.wrap ((j:Int)-7)=((j-7:Nat):Int):=by rw[IntWalk.i64_in _ ⟨by omega,by omega⟩];omega
   rw[w15,w2,w16,w7,e1];simp only[Int.toNat_natCast];have s0:∀i:Nat,0+i*1=i:=fun i=>by omega
   simp only[s0];rw[d1];have d2':(true&&(j+1).ble ws.length)=true:=by rw[Bool.true_and];exact Nat.ble_eq_true_of_le (by omega)
   rw[d2',cond_true,cond_false];have k:∀i:Nat,i<64→(decide ((0:Int)≤(i:Int))&&decide ((i:Int)<64))=true:=fun i hi=>by
    rw[Bool.and_eq_true];exact⟨decide_eq_true (by omega),decide_eq_true (by omega)⟩
   have q:∀i:Nat,i<64→i.blt ws.length=true:=fun i hi=>Nat.ble_eq_true_of_le (by omega);refine aa (k _ (by omega)) (aa (q _ (by omega)) (aa (cM p1 (by omega)) ?_));refine aa (k _ (by omega)) (aa (q _ (by omega)) (aa (cM p1 (by omega)) ?_));refine aa (k _ (by omega)) (aa (q _ (by omega)) (aa (cM p1 (by omega)) ?_));refine aa (k _ (by omega)) (aa (q _ (by omega)) (aa (cM p1 (by omega)) ?_));refine aa rfl ?_;exact fin _ (by unfold iE;rw[if_neg hj2];rfl)
 |false=>
  have hj:j=64:=by have:=of_decide_eq_false hb;omega
  subst hj;refine⟨_,_,fun K hK=>hK,?_⟩;show Fits 1 _ [Blk.ro false la,Blk.row (cn (wI ws)) 108 64] _ _;rw[m4 p1 p2];exact qg la hf off c z ws p1 64
def bxDec:List (Option V)→St→Option BX
 |[some (.slice 0 off 64 false c z),some (.ptr 1 0),some (.int .i64 0)],.ro false la::.row ws _ _::_=>some ⟨la,off,c,z,ws,0⟩
 |_,_=>none
noncomputable def lk74G(BL:List V→Nat→Nat→Nat→List V→Nat→Int):Nat→Trans→Trans:=aU 26 (bp 1 (szOf Tryd.prog 84) [0,2,6] bxDec jZ bxV bxJ (bxOutG BL)) (ac 9)
theorem bx_loop{f:Fr}{st:St}{Q:Exit→Fr→St→Prop}(h:bp 1 (szOf Tryd.prog 84) [0,2,6] bxDec jZ bxV bxJ bxOut f st Q):CodeSatW Tryd.prog none 1 (.loop (bH Tryd.prog 84 26)) f st Q:=
 aW (P:=Tryd.prog) (T:=T1) (k:=1) (lim:=9) (n:=10) (g:=84) (p0:=26) (lk:=ac 9) ax T1_ok (aQ 9 _ _) bxMu bx_roundOk h
theorem lk74_ok:aE Tryd.prog 1 (lk74G blkF) 84:=by
 unfold lk74G;exact bt (aR 9 1 84) (by kernel_rfl) fun f st Q h=>bx_loop h
noncomputable def lookK(g:Nat)(lk:Nat→Trans→Trans)(args:List V)(st:St)(R:V→St→Prop):Prop:=fnK Tryd.prog (cqT Tryd.prog T1 9 10) (KG Tryd.prog T1 9 10) lk g args st R
theorem lookK_ok{g:Nat}{lk:Nat→Trans→Trans}{args:List V}{st:St}{R:V→St→Prop}(hl:aE Tryd.prog st.length lk g)(h:lookK g lk args st R):FnSat Tryd.prog g args st R:=
 jQ ax (jm ax T1_ok 9 10) (ll ax T1_ok 10) hl h
def cZ:List V:=cn fun _=>0
theorem blk_tree(BL:List V→Nat→Nat→Nat→List V→Nat→Int)(la:List V)(off c z:Nat)(R:V→St→Prop):lookK 84 (lk74G BL) [.slice 0 off 64 false c z] [.ro false la] R=
  (
 Fits 1 [.slice 0 off 64 false c z,.ptr 1 0,.int i64 0] [.ro false la,.row cZ 108 64] [some (.slice 0 off 64 false c z),some (.ptr 1 0),some
 (.int i64 0)] [.ro false la,.row cZ 108 64]∧bif jZ {la:=la,off:=off,c:=c,z:=z,ws:=cZ,j:=0}then R (.agg (cn (BL la
 off 64 0 cZ))) [.ro false la,.row (cn (BL la off 64 0 cZ)) 108 64]else False):=by kernel_rfl
noncomputable def blkG:List V→St→Option (List (Bool×(V×St)))
 |[.slice 0 off 64 false c z],[.ro false la]=>some [(okB la off,(.agg (cn (blkF la off 64 0 cZ)),[]))]
 |_,_=>none
theorem blk_ok(args:List V)(s:St)(l:List (Bool×(V×St)))(v:V)(n:St)(h:blkG args s=some l)(ho:aC l=some (v,n)):(∀b∈s,am b.cs=true)∧FnSat Tryd.prog 84 args s (fun u st=>Fits 0 [v] n [some u] st):=by
 unfold blkG at h;split at h
 ·rename_i off c z la;cases h;cases hk:okB la off with
  |false=>rw[hk]at ho;cases ho
  |true=>
   rw[hk]at ho;cases ho;refine⟨by simp[Blk.cs,jH hk],lookK_ok (lk:=lk74G blkF) lk74_ok ?_⟩;rw[blk_tree];refine⟨qg la (jH hk) off c z cZ rfl 0,aa ?_ ?_⟩
   ·unfold jZ;rw[Bool.and_eq_true,Bool.and_eq_true,Bool.and_eq_true];exact⟨hk,rfl,rfl,rfl⟩
   ·exact⟨[],[.agg (cn (blkF la off 64 0 cZ))],rfl,rfl,FitsM.of trivial,by simp,fun i hi=>by omega⟩
 ·cases h
end Go.Proofs.YtnenadbbhdcaoaaDoor
namespace Go.Proofs.YtnenadbbhdcaoaaDoor
open Go Go.Vm Go.RowKit
set_option linter.unusedVariables false
set_option maxRecDepth 100000
set_option linter.unusedSectionVars false
variable [Φ:Frz]
noncomputable def T3:Tab:=⟨noT,noL,aV 9⟩
theorem T3_ok:TabOk3 Tryd.prog T3:=⟨aF,aG,ap 9⟩
def okL(s:List UInt8):Bool:=decide ((s.length:Int)≤99999)
theorem okL_le{s:List UInt8}(h:okL s=true):(s.length:Int)≤99999:=of_decide_eq_true h
end Go.Proofs.YtnenadbbhdcaoaaDoor
namespace Go.Vm
open Go.RowKit
set_option linter.unusedSectionVars false
variable [Φ:Frz]
def bys(l:List UInt8):List V:=l.map fun b=>.int .u8 (b.toNat:Int)
theorem bys_len(l:List UInt8):(bys l).length=l.length:=by unfold bys;rw[List.length_map]
theorem bys_flat:∀l:List UInt8,am (bys l)=true
 |[]=>rfl
 |c::r=>by
  have ih:=bys_flat r;unfold bys at ih ⊢;rw[List.map_cons,am,ih];rfl
theorem fb{σ:List Nat}{st:St}{c:Nat}{cs:List V}{t:TypeId}{sz:Nat}(h:am cs=true)(hc:st[c]?=some (.row cs t sz)):Blk.row cs t sz=.dead∨∃b',FitB σ (.row cs t sz) b'∧st[c]?=some b':=
 .inr ⟨.row cs t sz,.inl (by simp only[renB,aB _ h]),hc⟩
end Go.Vm
namespace Go.Vm
open Go.RowKit
set_option linter.unusedSectionVars false
variable [Φ:Frz]
theorem dV{s r:List UInt8}{i:Nat}{a:UInt8}(h:s.drop i=a::r):s.getD i 0=a∧s.drop (i+1)=r∧i<s.length:=by
 have hl:i<s.length:=by
  have:(s.drop i).length=(a::r).length:=by rw[h]
  rw[List.length_drop,List.length_cons]at this;omega
 rw[List.drop_eq_getElem_cons hl]at h;cases h;exact⟨by rw[List.getD_eq_getElem?_getD,List.getElem?_eq_getElem hl,Option.getD_some],rfl,hl⟩
theorem fu{s:List UInt8}{i:Nat}(h:s.drop i=[])(hi:i≤s.length):i=s.length:=by
 have:(s.drop i).length=0:=by rw[h];rfl
 rw[List.length_drop]at this;omega
theorem bys_ln(o:List UInt8):(List.map (fun b:UInt8=>V.int .u8 (b.toNat:Int)) o).length=o.length:=List.length_map ..
end Go.Vm
namespace Go.Proofs.YtnenadbbhdcaoaaDoor
open Go Go.Vm Go.RowKit
set_option linter.unusedVariables false
set_option maxRecDepth 100000
set_option linter.unusedSectionVars false
variable [Φ:Frz]
structure HX where
 x:Value
 n:Nat
 cs:List V
 h:List UInt8
 i:Nat
end Go.Proofs.YtnenadbbhdcaoaaDoor
namespace Go.Proofs.YtnenadbbhdcaoaaDoor
open Go.IntKind (u8 u16 u32 u64 i8 i16 i32 i64)
open Go Go.Vm Go.RowKit
set_option linter.unusedVariables false
set_option maxRecDepth 100000
set_option linter.unusedSectionVars false
variable [Φ:Frz]
def mixTG(OK:List V→Bool)(M:W8→List V→W8):List V→Option (List (Bool×(V×St)))
 |[.agg [.int .u32 a,.int .u32 b,.int .u32 c,.int .u32 d,.int .u32 e,.int .u32 f,.int .u32 g,.int .u32 h],.agg ws]=>some [(OK ws,(.agg (M ⟨a,b,c,d,e,f,g,h⟩ ws).cells,[]))]
 |_=>none
def blkTG(OB:List V→Nat→Bool)(BL:List V→Nat→Nat→Int):List V→St→Option (List (Bool×(V×St)))
 |[.slice 0 off 64 false c z],[.ro false la]=>some [(OB la off,(.agg (cn (BL la off)),[]))]
 |_,_=>none
noncomputable def TD(OK:List V→Bool)(M:W8→List V→W8)(OB:List V→Nat→Bool)(BL:List V→Nat→Nat→Int):Tab:=⟨addT noT 83 (mixTG OK M),addM noL 84 (blkTG OB BL),aV 10⟩
theorem d1_round(s:List UInt8)(cs v:List V)(k:Nat)(R:Exit→List (Option V)→St→Prop):ah Tryd.prog T3 9 10 (ac 9) 40 60 [0,3,4] [.str s,.ptr 0 0,.slice 1 0 k false 0 0] [.row v 104 8,.row cs 5 1] R=
  (
 bif (↑k:Int).tmod 64!=56 then bif cs.length.beq (k*1)then bif (k+1).ble 9223372036854775807&&((k+1)*1).ble 140737488355328 then R .normal [some (.str
 s),some (.ptr 0 0),some (.slice 3 0 (k+1) false 0 0)] [.row v 104 8,.dead,.row [.int u8 0] 5 1,.row (cs++[V.int u8 0]) 5 1]else
 False else False else R (.exit 0) [some (.str s),some (.ptr 0 0),some (.slice 1 0 k false 0 0)] [.row v 104 8,.row cs 5 1]):=by kernel_rfl
noncomputable def zD_0(BL:List V→Nat→Nat→Int)(la:List V)(off:Nat):=[V.int u32 (BL la (off+0) 0),V.int u32 (BL la (off+0) 1),V.int u32 (BL la (off+0) 2),V.int u32 (BL la (off+0) 3),V.int u32 (BL la (off+0) 4),V.int u32 (BL la (off+0) 5),V.int u32 (BL la (off+0) 6),V.int u32 (BL la (off+0) 7),V.int u32 (BL la (off+0) 8),V.int u32 (BL la (off+0) 9),V.int u32 (BL la (off+0) 10),V.int u32 (BL la (off+0) 11),V.int u32 (BL la (off+0) 12),V.int u32 (BL la (off+0) 13),V.int u32 (BL la (off+0) 14),V.int u32 (BL la (off+0) 15),V.int u32 (BL la (off+0) 16),V.int u32 (BL la (off+0) 17),V.int u32 (BL la (off+0) 18),V.int u32 (BL la (off+0) 19),V.int u32 (BL la (off+0) 20),V.int u32 (BL la (off+0) 21),V.int u32 (BL la (off+0) 22),V.int u32 (BL la (off+0) 23),V.int u32 (BL la (off+0) 24),V.int u32 (BL la (off+0) 25),V.int u32 (BL la (off+0) 26),V.int u32 (BL la (off+0) 27),V.int u32 (BL la (off+0) 28),V.int u32 (BL la (off+0) 29),V.int u32 (BL la (off+0) 30),V.int u32 (BL la (off+0) 31),V.int u32 (BL la (off+0) 32),V.int u32 (BL la (off+0) 33),V.int u32 (BL la (off+0) 34),V.int u32 (BL la (off+0) 35),V.int u32 (BL la (off+0) 36),V.int u32 (BL la (off+0) 37),V.int u32 (BL la (off+0) 38),V.int u32 (BL la (off+0) 39),V.int u32 (BL la (off+0) 40),V.int u32 (BL la (off+0) 41),V.int u32 (BL la (off+0) 42),V.int u32 (BL la (off+0) 43),V.int u32 (BL la (off+0) 44),V.int u32 (BL la (off+0) 45),V.int u32 (BL la (off+0) 46),V.int u32 (BL la (off+0) 47),V.int u32 (BL la (off+0) 48),V.int u32 (BL la (off+0) 49),V.int u32 (BL la (off+0) 50),V.int u32 (BL la (off+0) 51),V.int u32 (BL la (off+0) 52),V.int u32 (BL la (off+0) 53),V.int u32 (BL la (off+0) 54),V.int u32 (BL la (off+0) 55),V.int u32 (BL la (off+0) 56),V.int u32 (BL la (off+0) 57),V.int u32 (BL la (off+0) 58),V.int u32 (BL la (off+0) 59),V.int u32 (BL la (off+0) 60),V.int u32 (BL la (off+0) 61),V.int u32 (BL la (off+0) 62),V.int u32 (BL la (off+0) 63)]
theorem d3_round(OK:List V→Bool)(M:W8→List V→W8)(OB:List V→Nat→Bool)(BL:List V→Nat→Nat→Int)(a b c d e f g h:Int)(la:List V)(off len cc z:Nat)(R:Exit→List (Option V)→St→Prop):ah Tryd.prog (TD OK M OB BL) 10 10 (ac 10) 40 508 [3,4] [.ptr 0 0,.slice 1 off len false cc z] [.row [.int .u32 a,.int .u32 b,.int .u32 c,.int .u32 d,.int .u32 e,.int .u32 f,.int .u32 g,.int .u32 h] 104 8,.row la 5 1] R=
 (
 bif decide ((↑len:Int)>0)then bif true&&Nat.ble 64 len then bif OB la (off+0)then bif OK (zD_0 BL la off)then bif Nat.ble 64 len&&len.ble len then R
 .normal [some (.ptr 0 0),some (.slice 1 (off+64) (len-64) false (if false=true then cc-64 else cc+64) (if 64=0 then z else off))] [.row
 [.int u32 (M {a:=a,b:=b,c:=c,d:=d,e:=e,f:=f,g:=g,h:=h} (zD_0 BL la off)).a,.int u32 (M
 {a:=a,b:=b,c:=c,d:=d,e:=e,f:=f,g:=g,h:=h} (zD_0 BL la off)).b,.int u32 (M
 {a:=a,b:=b,c:=c,d:=d,e:=e,f:=f,g:=g,h:=h} (zD_0 BL la off)).c,.int u32 (M
 {a:=a,b:=b,c:=c,d:=d,e:=e,f:=f,g:=g,h:=h} (zD_0 BL la off)).d,.int u32 (M
 {a:=a,b:=b,c:=c,d:=d,e:=e,f:=f,g:=g,h:=h} (zD_0 BL la off)).e,.int u32 (M
 {a:=a,b:=b,c:=c,d:=d,e:=e,f:=f,g:=g,h:=h} (zD_0 BL la off)).f,.int u32 (M
 {a:=a,b:=b,c:=c,d:=d,e:=e,f:=f,g:=g,h:=h} (zD_0 BL la off)).g,.int u32 (M
 {a:=a,b:=b,c:=c,d:=d,e:=e,f:=f,g:=g,h:=h} (zD_0 BL la off)).h] 104 8,.row la 5 1]else False else False else False else False else R
 (.exit 4) [some (.ptr 0 0),some (.slice 1 off len false cc z)] [.row [.int u32 a,.int u32 b,.int u32 c,.int u32
 d,.int u32 e,.int u32 f,.int u32 g,.int u32 h] 104 8,.row la 5 1]):=by kernel_rfl
theorem iw:∀{l r:List V},am l=true→am r=true→am (l++r)=true
 |[],r,_,h=>h
 |v::l,r,h1,h2=>by
  rw[am,Bool.and_eq_true]at h1;rw[List.cons_append,am,Bool.and_eq_true];exact⟨h1.1,iw h1.2 h2⟩
def ivW:W8:=⟨1779033703,3144134277,1013904242,2773480762,1359893119,2600822924,528734635,1541459225⟩
structure DX where
 s:List UInt8
 cs:List V
def dxV(x:DX):List V:=[.str x.s,.ptr 0 0,.slice 1 0 x.cs.length false 0 0]
def dxJ(x:DX):St:=[.row ivW.cells 104 8,.row x.cs 5 1]
def dxN(n:Nat):Nat:=(120-n%64)%64
def le(x:DX):Bool:=am x.cs&&Nat.ble (x.cs.length+dxN x.cs.length) 1000000
def dxMu(x:DX):Nat:=dxN x.cs.length
def dxP(cs:List V):List V:=cs++List.replicate (dxN cs.length) (.int .u8 0)
def dxDec:List (Option V)→St→Option DX
 |[some (.str s),some (.ptr 0 0),some (.slice 3 0 _ false 0 0)],[_,_,_,.row cs _ _]=>some ⟨s,cs⟩
 |_,_=>none
def dxOutG(FP:List V→List V):Asks DX:=fun x K=>∀p:List V,p=FP x.cs→K (.exit 0) [.str x.s,.ptr 0 0,.slice 1 0 p.length false 0 0] [.row ivW.cells 104 8,.row p 5 1]
theorem qb(s:List UInt8)(cs:List V)(hf:am cs=true)(k c:Nat)(st:St)(h0:st[0]?=some (.row ivW.cells 104 8))(hc:st[c]?=some (.row cs 5 1))(hc0:c≠0):Fits 0 [.str s,.ptr 0 0,.slice 1 0 k false 0 0] [.row ivW.cells 104 8,.row cs 5 1] [some (.str s),some (.ptr 0 0),some (.slice c 0 k false 0 0)] st:=
 ⟨[0,c],[.str s,.ptr 0 0,.slice c 0 k false 0 0],rfl,rfl,FitsM.of ⟨.inr ⟨_,.inl rfl,h0⟩,fb hf hc,trivial⟩,by simp;omega,fun i hi=>by omega⟩
theorem dx_roundOk(x:DX)(hx:le x=true):ah Tryd.prog T3 9 10 (ac 9) 40 60 [0,3,4] (dxV x) (dxJ x) (av 0 le dxV dxJ dxMu (dxOutG dxP) x):=by
 obtain⟨s,cs⟩:=x;unfold le at hx;rw[Bool.and_eq_true]at hx;have p1:am cs=true:=hx.1;have p2:cs.length+dxN cs.length≤1000000:=Nat.le_of_ble_eq_true hx.2;show ah Tryd.prog T3 9 10 (ac 9) 40 60 [0,3,4] [.str s,.ptr 0 0,.slice 1 0 cs.length false 0 0] [.row ivW.cells 104 8,.row cs 5 1] _;generalize hn:cs.length=n at*
 rw[d1_round];have hm:(n:Int).tmod 64=((n%64:Nat):Int):=by rw[Int.tmod_eq_emod_of_nonneg (by omega)];omega
 rw[hm];refine ab (fun h=>?_) (fun h=>?_)
 ·have h:n%64≠56:=by
   intro h0;rw[h0]at h;simp at h
  have p3:dxN n=dxN (n+1)+1:=by unfold dxN;omega
  refine aa (by rw[Nat.mul_one,hn];exact Nat.beq_refl _) (aa (by rw[Bool.and_eq_true];exact⟨Nat.ble_eq_true_of_le (by omega),Nat.ble_eq_true_of_le (by omega)⟩) ?_);have hl:(cs++[V.int .u8 0]).length=n+1:=by rw[List.length_append,hn];rfl
  have hf:am (cs++[V.int .u8 0])=true:=iw p1 rfl;refine⟨⟨s,cs++[.int .u8 0]⟩,?_,?_,?_,fun K hK=>?_⟩
  ·unfold le;rw[Bool.and_eq_true];refine⟨hf,Nat.ble_eq_true_of_le ?_⟩;show(cs++[V.int .u8 0]).length+dxN (cs++[V.int .u8 0]).length≤1000000;rw[hl];omega
  ·show Fits 0 [.str s,.ptr 0 0,.slice 1 0 (cs++[V.int .u8 0]).length false 0 0] [.row ivW.cells 104 8,.row (cs++[V.int .u8 0]) 5 1] _ _;rw[hl];exact qb s _ hf _ 3 _ rfl rfl (by omega)
  ·show dxN (cs++[V.int .u8 0]).length<dxN cs.length;rw[hl,hn];omega
  ·have hK:∀p:List V,p=dxP cs→K (.exit 0) [.str s,.ptr 0 0,.slice 1 0 p.length false 0 0] [.row ivW.cells 104 8,.row p 5 1]:=hK;have:dxP (cs++[.int .u8 0])=dxP cs:=by
    unfold dxP;rw[hl,hn,List.append_assoc];rw[p3,List.replicate_succ];rfl
   exact fun p hp=>hK p (hp.trans this)
 ·have h:n%64=56:=by
   have:((n%64:Nat):Int)=56:=by simpa using h
   omega
  refine⟨[.str s,.ptr 0 0,.slice 1 0 n false 0 0],[.row ivW.cells 104 8,.row cs 5 1],fun K hK=>?_,qb s _ p1 _ 1 _ rfl rfl (by omega)⟩;have hK:∀p:List V,p=dxP cs→K (.exit 0) [.str s,.ptr 0 0,.slice 1 0 p.length false 0 0] [.row ivW.cells 104 8,.row p 5 1]:=hK;have:dxP cs=cs:=by
   unfold dxP;have:dxN cs.length=0:=by rw[hn];unfold dxN;omega
   rw[this,List.replicate_zero,List.append_nil]
  have hK:=hK cs this.symm;rw[hn]at hK;exact hK
def okM(ws:List V):Bool:=cg ws&&Nat.beq ws.length 64
def blkA(la:List V)(off:Nat):Nat→Int:=blkF la off 64 0 cZ
theorem TD_ok:TabOk3 Tryd.prog (TD okM mixE okB blkA):=⟨bm aF mix_ok,qt aG blk_ok,ap 10⟩
def sumL:Nat→Nat→List V→W8→W8
 |0,_,_,x=>x
 |n+1,off,la,x=>sumL n (off+64) la (mixE x (cn (blkA la off)))
structure D3 where
 la:List V
 x:W8
 off:Nat
 len:Nat
 cc:Nat
 z:Nat
def okA(la:List V):Bool:=am la&&la.all (aq .u8)
def d3V(y:D3):List V:=[.ptr 0 0,.slice 1 y.off y.len false y.cc y.z]
def d3J(y:D3):St:=[.row y.x.cells 104 8,.row y.la 5 1]
def lh(y:D3):Bool:=okA y.la&&(Nat.beq (y.off+y.len) y.la.length&&Nat.beq (y.len%64) 0)
def d3Mu(y:D3):Nat:=y.len
def d3OutG(SL:Nat→Nat→List V→W8→W8):Asks D3:=fun y K=>∀x:W8,x=SL (y.len/64) y.off y.la y.x→∀o c z:Nat,K (.exit 4) [.ptr 0 0,.slice 1 o 0 false c z] [.row x.cells 104 8,.dead]
theorem okA_B{la:List V}{off:Nat}(h:okA la=true)(hl:off+64≤la.length):okB la off=true:=by
 unfold okA at h;rw[Bool.and_eq_true]at h;unfold okB;rw[Bool.and_eq_true,Bool.and_eq_true];refine⟨h.1,Nat.ble_eq_true_of_le hl,?_⟩;rw[List.all_eq_true];intro v hv;exact List.all_eq_true.1 h.2 v (List.mem_of_mem_drop (List.mem_of_mem_take hv))
theorem d3_fits(x:W8)(la:List V)(hf:am la=true)(o l c z:Nat):Fits 0 [.ptr 0 0,.slice 1 o l false c z] [.row x.cells 104 8,.row la 5 1] [some (.ptr 0 0),some (.slice 1 o l false c z)] [.row x.cells 104 8,.row la 5 1]:=
 ⟨[0,1],[.ptr 0 0,.slice 1 o l false c z],rfl,rfl,FitsM.of ⟨fb rfl rfl,fb hf rfl,trivial⟩,by decide,fun i hi=>by omega⟩
theorem d3_out(x:W8)(la:List V)(o l c z:Nat):Fits 0 [.ptr 0 0,.slice 1 o l false c z] [.row x.cells 104 8,.dead] [some (.ptr 0 0),some (.slice 1 o l false c z)] [.row x.cells 104 8,.row la 5 1]:=
 ⟨[0,1],[.ptr 0 0,.slice 1 o l false c z],rfl,rfl,FitsM.of ⟨fb rfl rfl,.inl rfl,trivial⟩,by decide,fun i hi=>by omega⟩
theorem d3_roundOk(y:D3)(hy:lh y=true):ah Tryd.prog (TD okM mixE okB blkA) 10 10 (ac 10) 40 508 [3,4] (d3V y) (d3J y) (av 0 lh d3V d3J d3Mu (d3OutG sumL) y):=by
 obtain⟨la,x,off,len,cc,z⟩:=y;unfold lh at hy;rw[Bool.and_eq_true,Bool.and_eq_true]at hy;have p1:okA la=true:=hy.1;have p2:off+len=la.length:=Nat.eq_of_beq_eq_true hy.2.1;have p3:len%64=0:=Nat.eq_of_beq_eq_true hy.2.2;have hf:am la=true:=by have h:=p1;unfold okA at h;rw[Bool.and_eq_true]at h;exact h.1
 show ah Tryd.prog (TD okM mixE okB blkA) 10 10 (ac 10) 40 508 [3,4] [.ptr 0 0,.slice 1 off len false cc z] [.row [.int .u32 x.a,.int .u32 x.b,.int .u32 x.c,.int .u32 x.d,.int .u32 x.e,.int .u32 x.f,.int .u32 x.g,.int .u32 x.h] 104 8,.row la 5 1] _;rw[d3_round];unfold zD_0;refine ab (fun hb=>?_) (fun hb=>?_)
 ·have hl:64≤len:=by have:=of_decide_eq_true hb;omega
  have hle:Nat.ble 64 len=true:=Nat.ble_eq_true_of_le hl;refine aa (by rw[hle];rfl) (aa (okA_B p1 (by omega)) (aa rfl (aa (by rw[hle,Bool.true_and];exact Nat.ble_eq_true_of_le (Nat.le_refl _)) ?_)));refine⟨⟨la,mixE x (cn (blkA la off)),off+64,len-64,cc+64,off⟩,?_,d3_fits (mixE x (cn (blkA la off))) la hf _ _ _ _,by simp only[d3Mu];omega,fun K hK=>?_⟩
  ·unfold lh;rw[Bool.and_eq_true,Bool.and_eq_true];refine⟨p1,?_,?_⟩
   ·show Nat.beq (off+64+(len-64)) la.length=true;have:off+64+(len-64)=la.length:=by omega
    rw[this];exact Nat.beq_refl _
   ·show Nat.beq ((len-64)%64) 0=true;have:(len-64)%64=0:=by omega
    rw[this];rfl
  ·have hK:∀x':W8,x'=sumL (len/64) off la x→∀o c z:Nat,K (.exit 4) [.ptr 0 0,.slice 1 o 0 false c z] [.row x'.cells 104 8,.dead]:=hK;have e:len/64=(len-64)/64+1:=by omega
   rw[e]at hK;exact hK
 ·have hl:len=0:=by have:=of_decide_eq_false hb;omega
  subst hl;refine⟨[.ptr 0 0,.slice 1 off 0 false cc z],[.row x.cells 104 8,.dead],fun K hK=>?_,d3_out x la _ _ _ _⟩;have hK:∀x':W8,x'=sumL (0/64) off la x→∀o c z:Nat,K (.exit 4) [.ptr 0 0,.slice 1 o 0 false c z] [.row x'.cells 104 8,.dead]:=hK;rw[Nat.zero_div]at hK;exact hK x rfl off cc z
theorem dx_loop{f:Fr}{st:St}{Q:Exit→Fr→St→Prop}(h:bp 0 (szOf Tryd.prog 40) [0,3,4] dxDec le dxV dxJ (dxOutG dxP) f st Q):CodeSatW Tryd.prog none 0 (.loop (bH Tryd.prog 40 60)) f st Q:=
 aW (P:=Tryd.prog) (T:=T3) (k:=0) (lim:=9) (n:=10) (g:=40) (p0:=60) (lk:=ac 9) ax T3_ok (aQ 9 _ _) dxMu dx_roundOk h
def d3Dec:List (Option V)→St→Option D3
 |[some (.ptr 0 0),some (.slice b 0 len false 0 0)],.row [.int .u32 a1,.int .u32 a2,.int .u32 a3,.int .u32 a4,.int .u32 a5,.int .u32 a6,.int .u32 a7,.int .u32 a8] t sz::r=>match(Blk.dead::r)[b]? with
  |some (.row la _ _)=>some ⟨la,⟨a1,a2,a3,a4,a5,a6,a7,a8⟩,0,len,0,0⟩
  |_=>none
 |_,_=>none
theorem d3_loop{f:Fr}{st:St}{Q:Exit→Fr→St→Prop}(h:bp 0 (szOf Tryd.prog 40) [3,4] d3Dec lh d3V d3J (d3OutG sumL) f st Q):CodeSatW Tryd.prog none 0 (.loop (bH Tryd.prog 40 508)) f st Q:=
 aW (P:=Tryd.prog) (T:=TD okM mixE okB blkA) (k:=0) (lim:=10) (n:=10) (g:=40) (p0:=508) (lk:=ac 10) ax TD_ok (aQ 10 _ _) d3Mu d3_roundOk h
noncomputable def lk23(FP:List V→List V)(SL:Nat→Nat→List V→W8→W8):Nat→Trans→Trans:=aU 508 (bp 0 (szOf Tryd.prog 40) [3,4] d3Dec lh d3V d3J (d3OutG SL)) (aU 60 (bp 0 (szOf Tryd.prog 40) [0,3,4] dxDec le dxV dxJ (dxOutG FP)) (ac 10))
theorem lk23_ok:aE Tryd.prog 0 (lk23 dxP sumL) 40:=by
 unfold lk23;exact bt (bt (aR 10 0 40) (by kernel_rfl) fun f st Q h=>dx_loop h) (by kernel_rfl) fun f st Q h=>d3_loop h
noncomputable def TD2(FP:List V→List V)(SL:Nat→Nat→List V→W8→W8):Tab:=⟨noT,noL,cG (aV 10) 40 0 (lk23 FP SL)⟩
theorem TD2_ok:TabOk3 Tryd.prog (TD2 dxP sumL):=⟨aF,aG,bn (ap 10) lk23_ok⟩
noncomputable def zD_1(s:List UInt8):=(u64.wrap (u64.wrap (↑s.length:Int)*8))
noncomputable def zD_2:=[V.int u32 1779033703,V.int u32 3144134277,V.int u32 1013904242,V.int u32 2773480762,V.int u32 1359893119,V.int u32 2600822924,V.int u32 528734635,V.int u32 1541459225]
noncomputable def zD_3(s:List UInt8):=[V.int u8 (u8.wrap ((zD_1 s).fdiv 72057594037927936))]
noncomputable def zD_4(s:List UInt8):=[V.int u8 (u8.wrap ((zD_1 s).fdiv 281474976710656))]
noncomputable def zD_5(s:List UInt8):=[V.int u8 (u8.wrap ((zD_1 s).fdiv 1099511627776))]
noncomputable def zD_6(s:List UInt8):=[V.int u8 (u8.wrap ((zD_1 s).fdiv 4294967296))]
noncomputable def zD_7(s:List UInt8):=[V.int u8 (u8.wrap ((zD_1 s).fdiv 16777216))]
noncomputable def zD_8(s:List UInt8):=[V.int u8 (u8.wrap ((zD_1 s).fdiv 65536))]
noncomputable def zD_9(s:List UInt8):=[V.int u8 (u8.wrap ((zD_1 s).fdiv 256))]
noncomputable def nv(s:List UInt8):=[V.int u8 (u8.wrap ((zD_1 s).fdiv 1))]
theorem sum_tree(FP:List V→List V)(SL:Nat→Nat→List V→W8→W8)(s:List UInt8)(R:V→Prop):runW Tryd.prog (TD2 FP SL) 10 10 40 [.str s] R=
 (
 bif s.length.ble 281474976710656 then bif (List.map (fun b=>V.int u8 (↑b.toNat:Int)) s).length.beq (s.length*1)then bif (s.length+1).ble
 9223372036854775807&&((s.length+1)*1).ble 140737488355328 then Fits 0 [.str s,.ptr 0 0,.slice 1 0 (List.map (fun b=>V.int u8 (↑b.toNat:
 Int)) s++[V.int u8 128]).length false 0 0] [.row zD_2 104 8,.row (List.map (fun b=>V.int u8 (↑b.toNat:Int)) s++[V.int u8
 128]) 5 1] [some (.str s),some (.ptr 0 0),some (.slice 3 0 (s.length+1) false 0 0)] [.row zD_2 104 8,.dead,.row [.int u8 128] 5 1,
 .row (List.map (fun b=>V.int u8 (↑b.toNat:Int)) s++[V.int u8 128]) 5 1]∧bif le
 {s:=s,cs:=List.map (fun b=>V.int u8 (↑b.toNat:Int)) s++[V.int u8 128]}then ∀(p:List V),p=FP (List.map (fun b=>V.int
 u8 (↑b.toNat:Int)) s++[V.int u8 128])→bif p.length.beq (p.length*1)then bif (p.length+1).ble 9223372036854775807&&((p.length+1)*
 1).ble 140737488355328 then bif (p++(zD_3 s)).length.beq ((p.length+1)*1)then bif (p.length+1+1).ble 9223372036854775807&&((p.length+1+1)*
 1).ble 140737488355328 then bif (p++(zD_3 s)++(zD_4 s)).length.beq ((p.length+1+1)*1)then bif (p.length+1+1+1).ble 9223372036854775807&&
 ((p.length+1+1+1)*1).ble 140737488355328 then bif (p++(zD_3 s)++(zD_4 s)++(zD_5 s)).length.beq ((p.length+1+1+1)*1)then bif (p.length+1
 +1+1+1).ble 9223372036854775807&&((p.length+1+1+1+1)*1).ble 140737488355328 then bif (p++(zD_3 s)++(zD_4 s)++(zD_5 s)++(zD_6
 s)).length.beq ((p.length+1+1+1+1)*1)then bif (p.length+1+1+1+1+1).ble 9223372036854775807&&((p.length+1+1+1+1+1)*1).ble
 140737488355328 then bif (p++(zD_3 s)++(zD_4 s)++(zD_5 s)++(zD_6 s)++(zD_7 s)).length.beq ((p.length+1+1+1+1+1)*1)then bif (p.length+1+
 1+1+1+1+1).ble 9223372036854775807&&((p.length+1+1+1+1+1+1)*1).ble 140737488355328 then bif (p++(zD_3 s)++(zD_4 s)++(zD_5 s)++
 (zD_6 s)++(zD_7 s)++(zD_8 s)).length.beq ((p.length+1+1+1+1+1+1)*1)then bif (p.length+1+1+1+1+1+1+1).ble 9223372036854775807&&
 ((p.length+1+1+1+1+1+1+1)*1).ble 140737488355328 then bif (p++(zD_3 s)++(zD_4 s)++(zD_5 s)++(zD_6 s)++(zD_7 s)++(zD_8 s)++(zD_9
 s)).length.beq ((p.length+1+1+1+1+1+1+1)*1)then bif (p.length+1+1+1+1+1+1+1+1).ble 9223372036854775807&&((p.length+1+1+1
 +1+1+1+1+1)*1).ble 140737488355328 then Fits 0 [.ptr 0 0,.slice 1 0 (p.length+1+1+1+1+1+1+1+1) false 0 0] [.row zD_2 104 8,
 .row (p++(zD_3 s)++(zD_4 s)++(zD_5 s)++(zD_6 s)++(zD_7 s)++(zD_8 s)++(zD_9 s)++(nv s)) 5 1] [some (.ptr 0 0),some (.slice 17 0 (p.length
 +1+1+1+1+1+1+1+1) false 0 0)] [.row zD_2 104 8,.dead,.row (zD_3 s) 5 1,.dead,.row (zD_4 s) 5 1,.dead,.row (zD_5 s) 5 1,
 .dead,.row (zD_6 s) 5 1,.dead,.row (zD_7 s) 5 1,.dead,.row (zD_8 s) 5 1,.dead,.row (zD_9 s) 5 1,.dead,.row (nv s) 5 1,
 .row (p++(zD_3 s)++(zD_4 s)++(zD_5 s)++(zD_6 s)++(zD_7 s)++(zD_8 s)++(zD_9 s)++(nv s)) 5 1]∧bif lh
 {la:=p++(zD_3 s)++(zD_4 s)++(zD_5 s)++(zD_6 s)++(zD_7 s)++(zD_8 s)++(zD_9 s)++(nv s),x:={a:=1779033703,b:=3144134277,c:=1013904242,d:=2773480762,e:=1359893119,f:=2600822924,g:=528734635,h:=1541459225},off:=0,len:=p.length+1+1+1+1+1+1+1+1,cc:=0,z:=0}
 then ∀(x:W8),x=SL ((p.length+1+1+1+1+1+1+1+1)/64) 0 (p++(zD_3 s)++(zD_4 s)++(zD_5 s)++(zD_6 s)++(zD_7 s)++(zD_8 s)++(zD_9
 s)++(nv s)) {a:=1779033703,b:=3144134277,c:=1013904242,d:=2773480762,e:=1359893119,f:=2600822924,g:=528734635,h:=1541459225}→∀(o
 c z:Nat),R (.str (List.map Vm.byteOf [.int u8 (u8.wrap (x.a.fdiv 16777216)),.int u8 (u8.wrap (x.a.fdiv 65536)),.int
 u8 (u8.wrap (x.a.fdiv 256)),.int u8 (u8.wrap x.a),.int u8 (u8.wrap (x.b.fdiv 16777216)),.int u8
 (u8.wrap (x.b.fdiv 65536)),.int u8 (u8.wrap (x.b.fdiv 256)),.int u8 (u8.wrap x.b),.int u8 (u8.wrap
 (x.c.fdiv 16777216)),.int u8 (u8.wrap (x.c.fdiv 65536)),.int u8 (u8.wrap (x.c.fdiv 256)),.int u8 (u8.wrap
 x.c),.int u8 (u8.wrap (x.d.fdiv 16777216)),.int u8 (u8.wrap (x.d.fdiv 65536)),.int u8 (u8.wrap (x.d.fdiv
 256)),.int u8 (u8.wrap x.d),.int u8 (u8.wrap (x.e.fdiv 16777216)),.int u8 (u8.wrap (x.e.fdiv 65536)),.int
 u8 (u8.wrap (x.e.fdiv 256)),.int u8 (u8.wrap x.e),.int u8 (u8.wrap (x.f.fdiv 16777216)),.int u8
 (u8.wrap (x.f.fdiv 65536)),.int u8 (u8.wrap (x.f.fdiv 256)),.int u8 (u8.wrap x.f),.int u8 (u8.wrap
 (x.g.fdiv 16777216)),.int u8 (u8.wrap (x.g.fdiv 65536)),.int u8 (u8.wrap (x.g.fdiv 256)),.int u8 (u8.wrap
 x.g),.int u8 (u8.wrap (x.h.fdiv 16777216)),.int u8 (u8.wrap (x.h.fdiv 65536)),.int u8 (u8.wrap (x.h.fdiv
 256)),.int u8 (u8.wrap x.h)]))else False else False else False else False else False else False else False else False else False else False
 else False else False else False else False else False else False else False else False else False else False else False):=by kernel_rfl
theorem bQ{o:List V}{k:Nat}{A:Prop}(h:o.length=k)(hk:k≤2000000)(hA:A):must (Nat.beq o.length (k*1)) (must ((k+1).ble 9223372036854775807&&((k+1)*1).ble 140737488355328) A):=by
 refine aa (by rw[h,Nat.mul_one];exact Nat.beq_refl _) (aa ?_ hA);rw[Bool.and_eq_true];exact⟨Nat.ble_eq_true_of_le (by omega),Nat.ble_eq_true_of_le (by omega)⟩
theorem al{o:List V}{k:Nat}{v:V}(h:o.length=k):(o++[v]).length=k+1:=by rw[List.length_append,h];rfl
def lenD(n:Nat)(k:Int):V:=.int .u8 (u8.wrap ((u64.wrap (u64.wrap (n:Int)*8)).fdiv k))
def la8(p:List V)(n:Nat):List V:=((((((((p++[lenD n 72057594037927936])++[lenD n 281474976710656])++[lenD n 1099511627776])++[lenD n 4294967296])++[lenD n 16777216])++[lenD n 65536])++[lenD n 256])++[lenD n 1])
def outW(x:W8):List V:=[V.int .u8 (u8.wrap (x.a.fdiv 16777216)),V.int .u8 (u8.wrap (x.a.fdiv 65536)),V.int .u8 (u8.wrap (x.a.fdiv 256)),V.int .u8 (u8.wrap x.a),V.int .u8 (u8.wrap (x.b.fdiv 16777216)),V.int .u8 (u8.wrap (x.b.fdiv 65536)),V.int .u8 (u8.wrap (x.b.fdiv 256)),V.int .u8 (u8.wrap x.b),V.int .u8 (u8.wrap (x.c.fdiv 16777216)),V.int .u8 (u8.wrap (x.c.fdiv 65536)),V.int .u8 (u8.wrap (x.c.fdiv 256)),V.int .u8 (u8.wrap x.c),V.int .u8 (u8.wrap (x.d.fdiv 16777216)),V.int .u8 (u8.wrap (x.d.fdiv 65536)),V.int .u8 (u8.wrap (x.d.fdiv 256)),V.int .u8 (u8.wrap x.d),V.int .u8 (u8.wrap (x.e.fdiv 16777216)),V.int .u8 (u8.wrap (x.e.fdiv 65536)),V.int .u8 (u8.wrap (x.e.fdiv 256)),V.int .u8 (u8.wrap x.e),V.int .u8 (u8.wrap (x.f.fdiv 16777216)),V.int .u8 (u8.wrap (x.f.fdiv 65536)),V.int .u8 (u8.wrap (x.f.fdiv 256)),V.int .u8 (u8.wrap x.f),V.int .u8 (u8.wrap (x.g.fdiv 16777216)),V.int .u8 (u8.wrap (x.g.fdiv 65536)),V.int .u8 (u8.wrap (x.g.fdiv 256)),V.int .u8 (u8.wrap x.g),V.int .u8 (u8.wrap (x.h.fdiv 16777216)),V.int .u8 (u8.wrap (x.h.fdiv 65536)),V.int .u8 (u8.wrap (x.h.fdiv 256)),V.int .u8 (u8.wrap x.h)]
def padP(s:List UInt8):List V:=dxP (bys s++[V.int .u8 128])
def sumW(s:List UInt8):W8:=sumL (((padP s).length+1+1+1+1+1+1+1+1)/64) 0 (la8 (padP s) s.length) ivW
def sumF(s:List UInt8):List UInt8:=(outW (sumW s)).map Vm.byteOf
def sumT:List V→Option (List (Bool×(V×St)))
 |[.str s]=>some [(okL s,(.str (sumF s),[]))]
 |_=>none
theorem d3_fitsN(la:List V)(hf:am la=true)(l c:Nat)(st:St)(h0:st[0]?=some (.row ivW.cells 104 8))(hc:st[c]?=some (.row la 5 1))(hc0:c≠0):Fits 0 [.ptr 0 0,.slice 1 0 l false 0 0] [.row ivW.cells 104 8,.row la 5 1] [some (.ptr 0 0),some (.slice c 0 l false 0 0)] st:=
 ⟨[0,c],[.ptr 0 0,.slice c 0 l false 0 0],rfl,rfl,FitsM.of ⟨.inr ⟨_,.inl rfl,h0⟩,fb hf hc,trivial⟩,by simp;omega,fun i hi=>by omega⟩
theorem okA_bys(s:List UInt8):okA (bys s)=true:=by
 unfold okA;rw[Bool.and_eq_true];refine⟨bys_flat s,?_⟩;unfold bys;rw[List.all_map,List.all_eq_true];intro b _;rfl
theorem bW{l r:List V}(h1:okA l=true)(h2:okA r=true):okA (l++r)=true:=by
 unfold okA at*
 rw[Bool.and_eq_true]at*
 exact⟨iw h1.1 h2.1,by rw[List.all_append,h1.2,h2.2];rfl⟩
theorem okA_rep(n:Nat):okA (List.replicate n (.int .u8 0))=true:=by
 induction n with
 |zero=>rfl
 |succ n ih=>rw[List.replicate_succ];exact bW (l:=[.int .u8 0]) rfl ih
theorem sum_ok(args:List V)(l:List (Bool×(V×St)))(o:V×St)(h:sumT args=some l)(ho:aC l=some o):FnSat Tryd.prog 40 args [] (Is o):=by
 unfold sumT at h;split at h
 ·rename_i s;cases h;cases hk:okL s with
  |false=>rw[hk]at ho;cases ho
  |true=>
  rw[hk]at ho;cases ho;have p1:=okL_le hk;have hc:okA (bys s++[V.int .u8 128])=true:=bW (okA_bys s) rfl;have hcl:(bys s++[V.int .u8 128]).length=s.length+1:=al (bys_len s);have hP:okA (padP s)=true:=bW hc (okA_rep _);have hPl:(padP s).length=s.length+1+dxN (s.length+1):=by unfold padP dxP;rw[List.length_append,List.length_replicate,hcl]
  have hN:dxN (s.length+1)<64:=by unfold dxN;omega
  have hM:(padP s).length%64=56:=by rw[hPl];unfold dxN;omega
  refine au (lim:=10) (n:=10) ax TD2_ok rfl rfl ?_;rw[sum_tree];unfold nv zD_9 zD_8 zD_7 zD_6 zD_5 zD_4 zD_3 zD_2 zD_1;refine aa (Nat.ble_eq_true_of_le (by omega)) (bQ (bys_ln s) (by omega) ⟨?_,aa ?_ (fun p hp=>?_)⟩)
  ·have:=qb s (bys s++[V.int .u8 128]) (by have h:=hc;unfold okA at h;rw[Bool.and_eq_true]at h;exact h.1) (bys s++[V.int .u8 128]).length 3;have hcl2:(List.map (fun b:UInt8=>V.int .u8 (b.toNat:Int)) s++[V.int .u8 128]).length=s.length+1:=hcl;rw[hcl2];rw[hcl]at this;exact this _ rfl rfl (by omega)
  ·unfold le;rw[Bool.and_eq_true];refine⟨by have h:=hc;unfold okA at h;rw[Bool.and_eq_true]at h;exact h.1,Nat.ble_eq_true_of_le ?_⟩;show(bys s++[V.int .u8 128]).length+dxN (bys s++[V.int .u8 128]).length≤1000000;rw[hcl];omega
  ·have hp:p=padP s:=hp;have hl:p.length≤200000:=by rw[hp];omega
   have hA:okA (la8 p s.length)=true:=by
    rw[hp];unfold la8;exact bW (bW (bW (bW (bW (bW (bW (bW hP rfl) rfl) rfl) rfl) rfl) rfl) rfl) rfl
   have hF:am (la8 p s.length)=true:=by have h:=hA;unfold okA at h;rw[Bool.and_eq_true]at h;exact h.1
   have hL:(la8 p s.length).length=p.length+1+1+1+1+1+1+1+1:=al (al (al (al (al (al (al (al rfl)))))));refine bQ rfl (by omega) (bQ (al rfl) (by omega) (bQ (al (al rfl)) (by omega) (bQ (al (al (al rfl))) (by omega) (bQ (al (al (al (al rfl)))) (by omega) (bQ (al (al (al (al (al rfl))))) (by omega) (bQ (al (al (al (al (al (al rfl)))))) (by omega) (bQ (al (al (al (al (al (al (al rfl))))))) (by omega) (?_))))))));refine⟨?_,aa ?_ (fun x hx o c z=>?_)⟩
   ·exact d3_fitsN (la8 p s.length) hF _ _ _ rfl rfl (by omega)
   ·unfold lh;rw[Bool.and_eq_true,Bool.and_eq_true];refine⟨hA,?_,?_⟩
    ·show Nat.beq (0+(p.length+1+1+1+1+1+1+1+1)) (la8 p s.length).length=true;rw[hL,Nat.zero_add];exact Nat.beq_refl _
    ·show Nat.beq ((p.length+1+1+1+1+1+1+1+1)%64) 0=true;have:(p.length+1+1+1+1+1+1+1+1)%64=0:=by rw[hp];omega
     rw[this];rfl
   ·have hx:x=sumW s:=by rw[hx,hp];rfl
    rw[hx];rfl
 ·cases h
noncomputable def DG0:Tab:=⟨addT (addP noT 14 iF) 40 sumT,noL,aV 9⟩
theorem DG0_ok:TabOk3 Tryd.prog DG0:=⟨bm (aS aF pc) sum_ok,aG,ap 9⟩
theorem dig_tree(k:List UInt8)(R:V→Prop):runW Tryd.prog DG0 9 10 16 [.str k] R=
  (
 bif bF k==[]then R (.str [])else bif okL (bF k)then R (.str (sumF (bF k)))else False):=by kernel_rfl
def digB(k:List UInt8):List UInt8:=bif bF k==[]then[]else sumF (bF k)
def digP:List V→Option V
 |[.str k]=>some (.str (digB k))
 |_=>none
theorem dig_ok(args:List V)(v:V)(h:digP args=some v):FnSat Tryd.prog 16 args [] (Is (v,[])):=by
 unfold digP at h;split at h
 ·rename_i k;cases h;refine au (lim:=9) (n:=10) ax DG0_ok rfl rfl ?_;rw[dig_tree];unfold digB;refine ab (fun h=>?_) (fun h=>?_)
  ·rw[h];rfl
  ·rw[h];have hk:okL (bF k)=true:=by
    refine decide_eq_true ?_;unfold bF;split
    ·simp
    ·split
     ·simp
     ·have h1:=bi 4 k;have h2:=bi 48 (putB 4 k);omega
   rw[hk];rfl
 ·cases h
structure LK where
 b:Bool
 x:Value
 n:Nat
 cs:List V
 i:Nat
theorem weak_sat{P:Program}{g:FuncId}{args:List V}{v v':V}{s s':St}(h:FnSat P g args [] (Is (v,s)))(H:∀(B:Nat) (W0 w:World) (m:List MB) (x:Value),Rel B W0 m s w→real m v=some x→∃m',Rel B W0 m' s' w∧real m' v'=some x):FnSat P g args [] (Is (v',s')):=by
 intro B W0 m w rargs ha hr;refine(h B W0 m w rargs ha hr).mono ?_;rintro e w' ⟨u,x,m1,s1,rfl,_,h2,h3,hq⟩;cases hq;obtain⟨m2,h4,h5⟩:=H B W0 w' m1 x h3 h2;have hm:m=[]:=List.eq_nil_of_length_eq_zero hr.len;subst hm;exact⟨v',x,m2,s',rfl,fun i e hi=>by simp at hi,h5,h4,rfl⟩
theorem ro_rel{B:Nat}{W0 w:World}{m:List MB}{cs:List V}{t:TypeId}{sz:Nat}(h:Rel B W0 m [.row cs t sz] w):Rel B W0 m [.ro true cs] w:=by
 refine⟨h.len,h.base,h.below,fun i b e hb he=>?_,fun i j b c d e _ h1 h2 _ _ _ _=>?_,h.glob⟩
 ·match i,hb with
  |0,hb=>
   simp only[List.getElem?_cons_zero,Option.some.injEq]at hb;subst hb;have h1:=h.blk 0 _ e rfl he;obtain⟨_,arr,ty,fz,g1,g2⟩:=h1.toRo B;exact⟨fun _=>h1.1,arr,ty,fz,g1,g2⟩
  |i+1,hb=>simp at hb
 ·match i,h1 with
  |0,h1=>
   simp only[List.getElem?_cons_zero,Option.some.injEq]at h1;subst h1;cases h2
  |i+1,h1=>simp at h1
def outN(s:List UInt8):V×St:=(.tuple [.agg [.str (dK s),.str (dG s),.nos 0 (dN s),.int .i64 (dF s),.int .i64 (dU s),.bool (dCa s)],.int .i64 0],[.ro true (strs (dL s))])
theorem tup_swap{m m':List MB}{k g:List UInt8}{p p':V}{f u e:Int}{ca:Bool}{x:Value}(H:∀y,real m p=some y→real m' p'=some y)(hx:real m (.tuple [.agg [.str k,.str g,p,.int .i64 f,.int .i64 u,.bool ca],.int .i64 e])=some x):
  real m' (.tuple [.agg [.str k,.str g,p',.int .i64 f,.int .i64 u,.bool ca],.int .i64 e])=some x:=by
 cases hp:real m p with
 |none=>simp[real,ae,hp]at hx
 |some y=>
  have:=H y hp;simp only[real,ae,hp]at hx;simp only[real,ae,this];exact hx
theorem shiftS(k:Nat):∀l:List (List UInt8),ay k (strs l)=strs l
 |[]=>rfl
 |a::r=>by
  have:=shiftS k r;unfold strs at this ⊢;simp only[List.map_cons,ay,V.shift,this]
noncomputable def RV0:Tab:=⟨noT,noL,aV 9⟩
theorem RV0_ok:TabOk3 Tryd.prog RV0:=⟨aF,aG,ap 9⟩
theorem rval_tree(x:Value)(n:Nat)(cs:List V)(i:Int)(R:V→Prop):runW Tryd.prog RV0 9 10 62 [.lst x n cs,.int .i64 i] R=
  (
 bif decide (i<(↑n:Int))then bif decide (0≤i)&&decide (i<(↑n:Int))then bif (i.toNat*2+1).blt cs.length then bif aK (cs.getD (i.toNat*2+1) (.bool
 false))then R (.str (ak (cs.getD (i.toNat*2+1) (.bool false))))else False else False else False else R (.str [])):=by kernel_rfl
def isItV:List V→Bool
 |[]=>true
 |.int .u8 _::.str _::r=>isItV r
 |_=>false
theorem kZ:∀L:List IT,isItV (aj L)=true
 |[]=>rfl
 |x::r=>kZ r
theorem isItV_of:∀cs:List V,isItV cs=true→cs=aj (cD cs)
 |[],_=>rfl
 |.int .u8 t::.str s::r,h=>by
  have:=isItV_of r h;simp only[cD,aj];rw[←this]
theorem mG:∀cs:List V,isItV cs=true→cs.all jM=true
 |[],_=>rfl
 |.int .u8 t::.str s::r,h=>by
  simp only[List.all_cons,jM,Bool.true_and];exact mG r h
def nx(st:St)(v:V):Option (Bool×List IT):=match fT st 2 v with
 |some (b,(n,cs))=>some (b&&(isItV cs&&Nat.beq (cD cs).length n),cD cs)
 |none=>none
def lstI(x:Value)(L:List IT):V:=.lst x L.length (aj L)
theorem viewI_ok{Φ:Frz}{B:Nat}{W0 w:World}{m:List MB}{st:St}(hr:@Rel gl Φ B W0 m st w){v:V}{L:List IT}{x:Value}(hv:nx st v=some (true,L))(hx:@real gl Φ m v=some x):
  @real gl (Frz.of w) [] (lstI x L)=some x:=by
 unfold nx at hv;split at hv
 ·rename_i b n cs hc;simp only[Option.some.injEq,Prod.mk.injEq,Bool.and_eq_true]at hv;obtain⟨⟨rfl,h1,h2⟩,rfl⟩:=hv;have:=viewC_ok hr hc (mG _ h1) hx (by omega);unfold lstI;rw[Nat.eq_of_beq_eq_true h2,←isItV_of _ h1];exact this
 ·cases hv
def vX(L:List IT)(i:Nat):List UInt8:=(L.getD i (0,[])).2
theorem rval_sat(x:Value)(L:List IT)(i:Int)(h0:0≤i)(hl:L.length≤9223372036854775807):FnSat Tryd.prog 62 [lstI x L,.int .i64 i] [] (Is (.str (vX L i.toNat),[])):=by
 refine au (lim:=9) (n:=10) ax RV0_ok rfl rfl ?_;unfold lstI;rw[rval_tree];rcases Nat.lt_or_ge i.toNat L.length with h|h
 ·obtain⟨c,r,hd⟩:∃c r,L.drop i.toNat=c::r:=by
   cases hd:L.drop i.toNat with
   |nil=>have:=congrArg List.length hd;simp at this;omega
   |cons c r=>exact⟨c,r,rfl⟩
  obtain⟨_,e2,e3⟩:=fv hd;rw[Nat.zero_add]at e2 e3;have e4:vX L i.toNat=c.2:=by
   unfold vX;rw[List.getD_eq_getElem?_getD,(bg hd).1];rfl
  have d0:decide (i<(L.length:Int))=true:=decide_eq_true (by omega);have d1:decide (0≤i)=true:=decide_eq_true h0;have d2:(i.toNat*2+1).blt (aj L).length=true:=Nat.ble_eq_true_of_le (by rw[dl];omega);simp only[d0,d1,d2,e2,e4,aK,ak,cond_true,Bool.and_self]
 ·have d0:decide (i<(L.length:Int))=false:=decide_eq_false (by omega);have e4:vX L i.toNat=[]:=by
   unfold vX;rw[List.getD_eq_getElem?_getD,List.getElem?_eq_none h];rfl
  rw[d0,e4,cond_false]
def rvalLV(OK:V→St→Bool)(VX:V→Nat→St→List UInt8):List V→St→Option (Bool×V)
 |[p,.int .i64 i],st=>some (OK p st&&decide (0≤i),.str (VX p i.toNat st))
 |_,_=>none
def ivOK(p:V)(st:St):Bool:=match nx st p with
 |some (b,L)=>b&&(Nat.ble L.length 9223372036854775807&&st.all fun b=>am b.cs)
 |none=>false
def ivX(p:V)(i:Nat)(st:St):List UInt8:=match nx st p with
 |some (_,L)=>vX L i
 |none=>[]
theorem rvalL_ok(args:List V)(s:St)(v:V)(h:rvalLV ivOK ivX args s=some (true,v)):v.flat=true∧(∀b∈s,am b.cs=true)∧FnSat Tryd.prog 62 args s (fun u _=>u=v):=by
 unfold rvalLV at h;split at h
 ·rename_i p i;simp only[Option.some.injEq,Prod.mk.injEq,Bool.and_eq_true]at h;obtain⟨⟨hb,hi⟩,rfl⟩:=h;have hi:=of_decide_eq_true hi;unfold ivOK at hb;split at hb
  ·rename_i b L hv;simp only[Bool.and_eq_true]at hb;obtain⟨rfl,h1,h2⟩:=hb;have hX:ivX p i.toNat s=vX L i.toNat:=by unfold ivX;rw[hv]
   rw[hX];refine⟨rfl,fun b hb=>List.all_eq_true.1 h2 b hb,?_⟩;have:FnSat Tryd.prog 62 [p,.int .i64 i] s (Is (.str (vX L i.toNat),s)):=by
    refine fJ rfl fun B W0 w m rargs hr ha=>?_;obtain⟨a,r,q1,q2,rfl⟩:=ao ha;have q3:=cN (Ψ:=Frz.of w) (m':=[]) _ _ rfl q2;exact⟨[lstI a L,.int .i64 i],@bf _ (Frz.of w) [] _ _ _ _ (viewI_ok hr hv q1) q3,@rval_sat (Frz.of w) a L i hi (Nat.le_of_ble_eq_true h1)⟩
   exact this.mono fun u st hq=>by cases hq;rfl
  ·cases hb
 ·cases h
def rdZ:Blk:=.row [.str [],.str [],.nilSlice,.int .i64 0,.int .i64 0,.bool false] 31 6
theorem rde_round0(s:List UInt8)(lc ds:List V)(nl n:Nat)(k g:List UInt8)(i:Int)(R:Exit→List (Option V)→St→Prop):ah Tryd.prog RV0 9 10 (ac 9) 21 4090 [0,2,3,7,12,14,15] [.str s,.ptr 0 0,.int .i64 0,.slice 1 0 nl false 0 0,.slice 2 0 n false 0 0,.ptr 3 0,.int .i64 i] [rdZ,.row lc 83 2,.row ds 83 2,.row [.str k,.str g,.nilSlice,.int .i64 0,.int .i64 0,.bool false] 31 6] R=
  (
 bif decide (i<(↑n:Int))then bif decide (0≤i)&&decide (i<(↑n:Int))then bif (0+i.toNat*2+1).blt ds.length then bif aK (ds.getD (0+i.toNat*2+1)
 (.bool false))then R .normal [some (.str s),some (.ptr 0 0),some (.int i64 0),some (.slice 1 0 nl false 0 0),some (.slice 2 0 n false 0 0),some
 (.ptr 3 0),some (.int i64 (i64.wrap (i+1)))] [.row [.str [],.str [],.nilSlice,.int i64 0,.int i64 0,.bool false] 31 6,
 .row lc 83 2,.row ds 83 2,.row [.str k,.str g,.slice 5 0 1 false 0 0,.int i64 0,.int i64 0,.bool false] 31 6,.row [.str (ak
 (ds.getD (0+i.toNat*2+1) (.bool false)))] 9 1,.row [.str (ak (ds.getD (0+i.toNat*2+1) (.bool false)))] 9 1]else False else False else False else R
 (.exit 0) [some (.str s),some (.ptr 0 0),some (.int i64 0),some (.slice 1 0 nl false 0 0),some (.slice 2 0 n false 0 0),some (.ptr 3 0),some
 (.int i64 i)] [.row [.str [],.str [],.nilSlice,.int i64 0,.int i64 0,.bool false] 31 6,.row lc 83 2,.row ds 83 2,.row
 [.str k,.str g,.nilSlice,.int i64 0,.int i64 0,.bool false] 31 6]):=by kernel_rfl
theorem rde_round1(s:List UInt8)(lc ds o:List V)(nl n m:Nat)(k g:List UInt8)(i:Int)(R:Exit→List (Option V)→St→Prop):ah Tryd.prog RV0 9 10 (ac 9) 21 4090 [0,2,3,7,12,14,15] [.str s,.ptr 0 0,.int .i64 0,.slice 1 0 nl false 0 0,.slice 2 0 n false 0 0,.ptr 3 0,.int .i64 i] [rdZ,.row lc 83 2,.row ds 83 2,.row [.str k,.str g,.slice 4 0 m false 0 0,.int .i64 0,.int .i64 0,.bool false] 31 6,.row o 9 1] R=
  (
 bif decide (i<(↑n:Int))then bif decide (0≤i)&&decide (i<(↑n:Int))then bif (0+i.toNat*2+1).blt ds.length then bif aK (ds.getD (0+i.toNat*2+1)
 (.bool false))then bif o.length.beq (m*1)then bif (m+1).ble 9223372036854775807&&((m+1)*16).ble 140737488355328 then R .normal [some (.str s),some
 (.ptr 0 0),some (.int i64 0),some (.slice 1 0 nl false 0 0),some (.slice 2 0 n false 0 0),some (.ptr 3 0),some (.int i64 (i64.wrap (i+
 1)))] [.row [.str [],.str [],.nilSlice,.int i64 0,.int i64 0,.bool false] 31 6,.row lc 83 2,.row ds 83 2,.row [.str k,.str g,
 .slice 6 0 (m+1) false 0 0,.int i64 0,.int i64 0,.bool false] 31 6,.dead,.row [.str (ak (ds.getD (0+i.toNat*2+1) (.bool
 false)))] 9 1,.row (o++[V.str (ak (ds.getD (0+i.toNat*2+1) (V.bool false)))]) 9 1]else False else False else False else False else False else R
 (.exit 0) [some (.str s),some (.ptr 0 0),some (.int i64 0),some (.slice 1 0 nl false 0 0),some (.slice 2 0 n false 0 0),some (.ptr 3 0),some
 (.int i64 i)] [.row [.str [],.str [],.nilSlice,.int i64 0,.int i64 0,.bool false] 31 6,.row lc 83 2,.row ds 83 2,.row
 [.str k,.str g,.slice 4 0 m false 0 0,.int i64 0,.int i64 0,.bool false] 31 6,.row o 9 1]):=by kernel_rfl
structure RDX where
 s:List UInt8
 lc:List V
 nl:Nat
 ds:List V
 n:Nat
 k:List UInt8
 g:List UInt8
 i:Nat
def rdxV(y:RDX):List V:=[.str y.s,.ptr 0 0,.int .i64 0,.slice 1 0 y.nl false 0 0,.slice 2 0 y.n false 0 0,.ptr 3 0,.int .i64 y.i]
def rdxC(k g:List UInt8)(p:V):Blk:=.row [.str k,.str g,p,.int .i64 0,.int .i64 0,.bool false] 31 6
def rdxJ(y:RDX):St:=rdZ::.row y.lc 83 2::.row y.ds 83 2::rdxC y.k y.g (deSl 4 y.i)::deRw y.ds y.i
noncomputable def gN(y:RDX):Bool:=am y.lc&&(okLs y.n y.ds&&Nat.ble y.i y.n)
def rdxMu(y:RDX):Nat:=y.n-y.i
def rdxDec:List (Option V)→St→Option RDX
 |[some (.str s),some (.ptr a 0),some (.int .i64 0),some (.slice b 0 nl false 0 0),some (.slice c 0 n false 0 0),some (.ptr d 0),some (.int .i64 0)],st=>match st[b]?,st[c]?,st[d]? with
  |some (.row lc _ _),some (.row ds _ _),some (.row (.str k::.str g::_) _ _)=>some ⟨s,lc,nl,ds,n,k,g,0⟩
  |_,_,_=>none
 |_,_=>none
def inS(ds:List V):List V:=strs ((cD ds).map (·.2))
def rdxOutG(s:List UInt8)(lc:List V)(nl:Nat)(ds:List V)(n:Nat)(k g:List UInt8)(K:Exit→List V→St→Prop):Prop:=
 (n=0→∀j:Int,K (.exit 0) [.str s,.ptr 0 0,.int .i64 0,.slice 1 0 nl false 0 0,.slice 2 0 n false 0 0,.ptr 3 0,.int .i64 j] [rdZ,.row lc 83 2,.row ds 83 2,rdxC k g .nilSlice])∧
 (∀m,n=m+1→∀j:Int,K (.exit 0) [.str s,.ptr 0 0,.int .i64 0,.slice 1 0 nl false 0 0,.slice 2 0 n false 0 0,.ptr 3 0,.int .i64 j] [rdZ,.row lc 83 2,.row ds 83 2,rdxC k g (.slice 4 0 (m+1) false 0 0),.row (inS ds) 9 1])
def rdxOut:Asks RDX:=fun y K=>rdxOutG y.s y.lc y.nl y.ds y.n y.k y.g K
theorem rdx_fits0(s:List UInt8)(lc:List V)(nl:Nat)(ds:List V)(n:Nat)(k g:List UInt8)(j:Int)(hl:am lc=true)(hd:am ds=true):Fits 0 [.str s,.ptr 0 0,.int .i64 0,.slice 1 0 nl false 0 0,.slice 2 0 n false 0 0,.ptr 3 0,.int .i64 j] [rdZ,.row lc 83 2,.row ds 83 2,rdxC k g .nilSlice]
  [some (.str s),some (.ptr 0 0),some (.int .i64 0),some (.slice 1 0 nl false 0 0),some (.slice 2 0 n false 0 0),some (.ptr 3 0),some (.int .i64 j)] [rdZ,.row lc 83 2,.row ds 83 2,rdxC k g .nilSlice]:=
 ⟨[0,1,2,3],[.str s,.ptr 0 0,.int .i64 0,.slice 1 0 nl false 0 0,.slice 2 0 n false 0 0,.ptr 3 0,.int .i64 j],rfl,rfl,FitsM.of ⟨.inr ⟨_,.inl rfl,rfl⟩,.inr ⟨_,.inl (by simp only[renB,aB lc hl]),rfl⟩,.inr ⟨_,.inl (by simp only[renB,aB ds hd]),rfl⟩,.inr ⟨_,.inl rfl,rfl⟩,trivial⟩,by decide,fun i hi=>by omega⟩
theorem ka(s:List UInt8)(lc:List V)(nl:Nat)(ds:List V)(n:Nat)(k g:List UInt8)(j:Int)(hl:am lc=true)(hd:am ds=true)(o:List (List UInt8))(b m L:Nat)(hL:L=m)(hb4:4≤b){st:St}(h0:st[0]?=some rdZ)(h1:st[1]?=some (.row lc 83 2))(h2:st[2]?=some (.row ds 83 2))(h3:st[3]?=some (rdxC k g (.slice b 0 L false 0 0)))(hb:st[b]?=some (.row (strs o) 9 1)):
  Fits 0 [.str s,.ptr 0 0,.int .i64 0,.slice 1 0 nl false 0 0,.slice 2 0 n false 0 0,.ptr 3 0,.int .i64 j] [rdZ,.row lc 83 2,.row ds 83 2,rdxC k g (.slice 4 0 m false 0 0),.row (strs o) 9 1]
  [some (.str s),some (.ptr 0 0),some (.int .i64 0),some (.slice 1 0 nl false 0 0),some (.slice 2 0 n false 0 0),some (.ptr 3 0),some (.int .i64 j)] st:=by
 subst hL;refine⟨[0,1,2,3,b],[.str s,.ptr 0 0,.int .i64 0,.slice 1 0 nl false 0 0,.slice 2 0 n false 0 0,.ptr 3 0,.int .i64 j],rfl,rfl,FitsM.of ⟨.inr ⟨_,.inl rfl,h0⟩,.inr ⟨_,.inl (by simp only[renB,aB lc hl]),h1⟩,.inr ⟨_,.inl (by simp only[renB,aB ds hd]),h2⟩,.inr ⟨_,.inl rfl,h3⟩,.inr ⟨_,.inl (by simp only[renB,fU]),hb⟩,trivial⟩,?_,fun i hi=>by omega⟩;simp;omega
theorem rdx_roundOk(y:RDX)(hx:gN y=true):ah Tryd.prog RV0 9 10 (ac 9) 21 4090 [0,2,3,7,12,14,15] (rdxV y) (rdxJ y) (av 0 gN rdxV rdxJ rdxMu rdxOut y):=by
 obtain⟨s,lc,nl,ds,n,k,g,i⟩:=y;unfold gN at hx;simp only[Bool.and_eq_true]at hx;have f1:am lc=true:=hx.1;have hx2:okLs n ds=true:=hx.2.1;have p1:i≤n:=Nat.le_of_ble_eq_true hx.2.2;obtain⟨L,rfl,rfl,p2⟩:=n6 hx2;have f2:=dW L;have nm:∀j,deNm (aj L) j=(L.take j).map (·.2):=fun j=>by unfold deNm;rw[bT]
 have nms:inS (aj L)=strs (L.map (·.2)):=by unfold inS;rw[bT]
 have rowN:∀{j c r},L.drop j=c::r→(L.take (j+1)).map (·.2)=(L.take j).map (·.2)++[c.2]:=fun{j c r} h=>by
  rw[List.take_add_one,(bg h).1,List.map_append];rfl
 have w1:i<L.length→i64.wrap ((i:Int)+1)=((i+1:Nat):Int):=fun h=>by rw[IntWalk.i64_in _ ⟨by omega,by omega⟩];omega
 have pre:i<L.length→gN ⟨s,lc,nl,aj L,L.length,k,g,i+1⟩=true:=fun h=>by
  unfold gN;simp only[Bool.and_eq_true];exact⟨f1,hx2,Nat.ble_eq_true_of_le h⟩
 cases i with
 |zero=>
  show ah Tryd.prog RV0 9 10 (ac 9) 21 4090 [0,2,3,7,12,14,15] [.str s,.ptr 0 0,.int .i64 0,.slice 1 0 nl false 0 0,.slice 2 0 L.length false 0 0,.ptr 3 0,.int .i64 ((0:Nat):Int)] [rdZ,.row lc 83 2,.row (aj L) 83 2,.row [.str k,.str g,.nilSlice,.int .i64 0,.int .i64 0,.bool false] 31 6] _;rw[rde_round0];cases L with
  |nil=>exact⟨_,_,fun K hK=>hK.1 rfl _,rdx_fits0 s lc nl [] 0 k g _ f1 rfl⟩
  |cons c r=>
   have e2:=(fv (L:=c::r) (i:=0) (c:=c) (r:=r) rfl).2;have d0:decide (((0:Nat):Int)<((c::r).length:Int))=true:=decide_eq_true (by simp);have d1:decide ((0:Int)≤((0:Nat):Int))=true:=rfl;have d2:(0+0*2+1).blt (aj (c::r)).length=true:=Nat.ble_eq_true_of_le (by simp[aj]);simp only[d0,d1,d2,e2.1,w1 (by simp),Int.toNat_natCast,aK,ak,cond_true,Bool.and_self];refine⟨⟨s,lc,nl,aj (c::r),(c::r).length,k,g,0+1⟩,pre (by simp),?_,by simp[rdxMu],fun K hK=>hK⟩;show Fits 0 _ (rdZ::.row lc 83 2::.row (aj (c::r)) 83 2::rdxC k g (.slice 4 0 1 false 0 0)::deRw (aj (c::r)) 1) _ _;have e:deRw (aj (c::r)) 1=[.row (strs [c.2]) 9 1]:=by show[Blk.row (strs (deNm (aj (c::r)) 1)) 9 1]=_;rw[nm];rfl
   rw[e];exact ka s lc nl (aj (c::r)) _ k g _ f1 f2 [c.2] 5 1 1 rfl (by omega) rfl rfl rfl rfl rfl
 |succ j=>
  have eR:deRw (aj L) (j+1)=[.row (strs ((L.take (j+1)).map (·.2))) 9 1]:=by show[Blk.row (strs (deNm (aj L) (j+1))) 9 1]=_;rw[nm]
  have eJ:rdxJ ⟨s,lc,nl,aj L,L.length,k,g,j+1⟩=[rdZ,.row lc 83 2,.row (aj L) 83 2,.row [.str k,.str g,.slice 4 0 (j+1) false 0 0,.int .i64 0,.int .i64 0,.bool false] 31 6,.row (strs ((L.take (j+1)).map (·.2))) 9 1]:=by
   unfold rdxJ;simp only;rw[eR];rfl
  rw[eJ];show ah Tryd.prog RV0 9 10 (ac 9) 21 4090 [0,2,3,7,12,14,15] [.str s,.ptr 0 0,.int .i64 0,.slice 1 0 nl false 0 0,.slice 2 0 L.length false 0 0,.ptr 3 0,.int .i64 ((j+1:Nat):Int)] _ _;rw[rde_round1];cases hd:L.drop (j+1)with
  |nil=>
   have hi:=bZ hd p1;rw[decide_eq_false (show ¬(((j+1:Nat):Int)<(L.length:Int)) by omega),cond_false];refine⟨_,_,fun K hK=>hK.2 j hi.symm ((j+1:Nat):Int),?_⟩;rw[nms,show L.map (·.2)=(L.take (j+1)).map (·.2) by rw[hi,List.take_length]];exact ka s lc nl (aj L) _ k g _ f1 f2 ((L.take (j+1)).map (·.2)) 4 (j+1) (j+1) rfl (by omega) rfl rfl rfl rfl rfl
  |cons c r=>
   have h3:=(bg hd).2.2;have e2:=(fv hd).2;have d0:decide (((j+1:Nat):Int)<(L.length:Int))=true:=decide_eq_true (by omega);have d1:decide ((0:Int)≤((j+1:Nat):Int))=true:=decide_eq_true (by omega);have d2:(0+(j+1)*2+1).blt (aj L).length=true:=Nat.ble_eq_true_of_le (by rw[dl];omega);have hlen:((L.take (j+1)).map (·.2)).length=j+1:=by rw[List.length_map,List.length_take];omega
   have d3:(strs ((L.take (j+1)).map (·.2))).length.beq ((j+1)*1)=true:=by rw[aL,hlen,Nat.mul_one,Nat.beq_refl]
   have d4:((j+1+1).ble 9223372036854775807&&((j+1+1)*16).ble 140737488355328)=true:=by rw[Nat.ble_eq_true_of_le (by omega),Nat.ble_eq_true_of_le (by omega)];rfl
   simp only[d0,d1,d2,d3,d4,e2.1,w1 h3,Int.toNat_natCast,aK,ak,cond_true,Bool.and_self];refine⟨⟨s,lc,nl,aj L,L.length,k,g,j+1+1⟩,pre h3,?_,by simp only[rdxMu];omega,fun K hK=>hK⟩;show Fits 0 _ (rdZ::.row lc 83 2::.row (aj L) 83 2::rdxC k g (.slice 4 0 (j+1+1) false 0 0)::deRw (aj L) (j+1+1)) _ _;have e:deRw (aj L) (j+1+1)=[.row (strs ((L.take (j+1)).map (·.2)++[c.2])) 9 1]:=by show[Blk.row (strs (deNm (aj L) (j+1+1))) 9 1]=_;rw[nm,rowN hd]
   have cat:strs ((L.take (j+1)).map (·.2))++[V.str c.2]=strs ((L.take (j+1)).map (·.2)++[c.2]):=by unfold strs;rw[List.map_append];rfl
   rw[e,cat];exact ka s lc nl (aj L) _ k g _ f1 f2 _ 6 (j+1+1) (j+1+1) rfl (by omega) rfl rfl rfl rfl rfl
noncomputable def lkRDX:Nat→Trans→Trans:=fS 4090 (isSl 12) (bp 0 (szOf Tryd.prog 21) [0,2,3,7,12,14,15] rdxDec gN rdxV rdxJ rdxOut) (ac 9)
theorem lkRDX_ok:aE Tryd.prog 0 lkRDX 21:=by
 unfold lkRDX;exact fnLoopCW (aR 9 0 21) (by kernel_rfl) fun f st Q h=>aW (P:=Tryd.prog) (T:=RV0) (k:=0) (lim:=9) (n:=10) (g:=21) (p0:=4090) (lk:=ac 9) ax RV0_ok (aQ 9 _ _) rdxMu rdx_roundOk h
def rencGV(EOK:V→St→Bool)(EB:List UInt8→List UInt8→V→Int→Int→Bool→St→List UInt8)(EE:List UInt8→List UInt8→V→Int→Int→Bool→St→Int):List V→St→Option (List (Bool×(V×St)))
 |[.agg [.str k,.str g,p,.int .i64 f,.int .i64 u,.bool ca]],st=>some [(EOK p st,(.tuple [.str (EB k g p f u ca st),.int .i64 (EE k g p f u ca st)],st))]
 |_,_=>none
def ecOK(p:V)(st:St):Bool:=match bq st p with
 |some (b,l)=>b&&(Nat.ble l.length 9223372036854775807&&l.all aN)
 |none=>false
def ecB(k g:List UInt8)(p:V)(f u:Int)(ca:Bool)(st:St):List UInt8:=match bq st p with
 |some (_,l)=>encB k g l f u ca
 |none=>[]
def ecE(k g:List UInt8)(p:V)(f u:Int)(ca:Bool)(st:St):Int:=match bq st p with
 |some (_,l)=>encE k g l f u ca
 |none=>0
theorem rencGV_ok(args:List V)(s:St)(l:List (Bool×(V×St)))(o:V×St)(h:rencGV ecOK ecB ecE args s=some l)(ho:aC l=some o):FnSat Tryd.prog 10 args s (Is o):=by
 unfold rencGV at h;split at h
 ·rename_i k g p f u ca;cases h;obtain⟨hk,rfl⟩:=aX ho;unfold ecOK at hk;split at hk
  ·rename_i b ls hv;have e1:ecB k g p f u ca s=encB k g ls f u ca:=by unfold ecB;rw[hv]
   have e2:ecE k g p f u ca s=encE k g ls f u ca:=by unfold ecE;rw[hv]
   rw[e1,e2];exact rencG_ok [.agg [.str k,.str g,p,.int .i64 f,.int .i64 u,.bool ca]] s [(b&&(Nat.ble ls.length 9223372036854775807&&ls.all aN),(.tuple [.str (encB k g ls f u ca),.int .i64 (encE k g ls f u ca)],s))] _ (by simp only[ew,hv]) (by rw[hk];rfl)
  ·cases hk
 ·cases h
noncomputable def RF1(GOKv:V→St→Bool)(VX:V→Nat→St→List UInt8)(EOK:V→St→Bool)(EB:List UInt8→List UInt8→V→Int→Int→Bool→St→List UInt8)(EE:List UInt8→List UInt8→V→Int→Int→Bool→St→Int)(AE:List UInt8→Int)(AN:List UInt8→Nat)(AC:List UInt8→List V):Tab:=⟨addT (addT (addP (addP noT 63 nR) 64 ip) 60 rgetT) 61 (rallG AE AN AC),addS (addL noL 62 (rvalLV GOKv VX)) 10 (rencGV EOK EB EE),cG (aV 9) 21 0 lkRDX⟩
theorem RF1_ok:TabOk3 Tryd.prog (RF1 ivOK ivX ecOK ecB ecE allE allN allC):=⟨bm (bm (aS (aS aF rread_ok) rrdbool_ok) rget_ok) rallG_ok,cH (addL_ok aG rvalL_ok) rencGV_ok,bn (ap 9) lkRDX_ok⟩
noncomputable def zG_0(AC:List UInt8→List V)(s:List UInt8):=[Blk.ro false (ay 2 (AC (ag s)))]
noncomputable def zG_1(AN:List UInt8→Nat)(s:List UInt8):=V.slice 0 0 (AN (ag s)) false 0 0
noncomputable def zG_2:=[V.str [],V.str [],V.nilSlice,V.int i64 0,V.int i64 0,V.bool false]
noncomputable def zG_3:=V.tuple [V.agg zG_2,V.int i64 4]
noncomputable def zG_5(VX:V→Nat→St→List UInt8)(AN:List UInt8→Nat)(AC:List UInt8→List V)(s:List UInt8):=ag (VX (zG_1 AN s) 0 (zG_0 AC s))
noncomputable def zG_4(VX:V→Nat→St→List UInt8)(AN:List UInt8→Nat)(AC:List UInt8→List V)(s:List UInt8):=V.tuple [V.agg [V.str (zG_5 VX AN AC s),V.str (VX (zG_1 AN s) 1 (zG_0 AC s)),V.nilSlice,V.int i64 (aA (VX (zG_1 AN s) 3 (zG_0 AC s))),V.int i64 (aA (VX (zG_1 AN s) 4 (zG_0 AC s))),V.bool (VX (zG_1 AN s) 5 (zG_0 AC s)==[255])],V.int i64 0]
theorem rde_tree(GOKv:V→St→Bool)(VX:V→Nat→St→List UInt8)(EOK:V→St→Bool)(EB:List UInt8→List UInt8→V→Int→Int→Bool→St→List UInt8)(EE:List UInt8→List UInt8→V→Int→Int→Bool→St→Int)(AE:List UInt8→Int)(AN:List UInt8→Nat)(AC:List UInt8→List V)(s:List UInt8)(R:V→St→Prop):runM Tryd.prog (RF1 GOKv VX EOK EB EE AE AN AC) 9 10 21 [.str s] (fun u st=>R u (visF u st))=
 (
 bif decide ((↑s.length:Int)>512)then R (.tuple [.agg zG_2,.int i64 40]) [.ro true []]else bif aN s then bif aN (ag s)&&(AN (ag
 s)).beq 0 then bif aH s !=0 then R zG_3 [.ro true []]else bif AE (ag s)!=0 then R zG_3 [.ro true []]else bif GOKv .nilSlice []&&true then bif
 aN (VX .nilSlice 0 [])then bif GOKv .nilSlice []&&true then bif aN (VX .nilSlice 2 [])&&(AN (VX .nilSlice 2 [])).beq 0 then bif GOKv .nilSlice []
 &&true then bif GOKv .nilSlice []&&true then bif GOKv .nilSlice []&&true then bif GOKv .nilSlice []&&true then bif EOK .nilSlice []then bif EE (ag
 (VX .nilSlice 0 [])) (VX .nilSlice 1 []) .nilSlice (aA (VX .nilSlice 3 [])) (aA (VX .nilSlice 4 [])) (VX .nilSlice 5 []==[255]) []!=0 then R zG_3
 [.ro true []]else bif !EB (ag (VX .nilSlice 0 [])) (VX .nilSlice 1 []) .nilSlice (aA (VX .nilSlice 3 [])) (aA (VX .nilSlice 4 [])) (VX
 .nilSlice 5 []==[255]) []==s then R zG_3 [.ro true []]else R (.tuple [.agg [.str (ag (VX .nilSlice 0 [])),.str (VX .nilSlice 1 []),
 .nilSlice,.int i64 (aA (VX .nilSlice 3 [])),.int i64 (aA (VX .nilSlice 4 [])),.bool (VX .nilSlice 5 []==[255])],.int
 i64 0]) [.ro true []]else False else False else False else False else False else bif aN (VX .nilSlice 2 [])then bif GOKv .nilSlice []&&true
 then False else False else False else False else False else False else bif aN (ag s)then bif aH s !=0 then R zG_3 [.ro true []]else bif AE (ag
 s)!=0 then R zG_3 [.ro true []]else bif GOKv (zG_1 AN s) (zG_0 AC s)&&true then bif aN (VX (zG_1 AN s) 0 (zG_0 AC s))then bif GOKv (zG_1 AN s) (zG_0
 AC s)&&true then bif aN (VX (zG_1 AN s) 2 (zG_0 AC s))&&(AN (VX (zG_1 AN s) 2 (zG_0 AC s))).beq 0 then bif GOKv (zG_1 AN s) (zG_0 AC s)&&true then bif
 GOKv (zG_1 AN s) (zG_0 AC s)&&true then bif GOKv (zG_1 AN s) (zG_0 AC s)&&true then bif GOKv (zG_1 AN s) (zG_0 AC s)&&true then bif EOK .nilSlice []then
 bif EE (zG_5 VX AN AC s) (VX (zG_1 AN s) 1 (zG_0 AC s)) .nilSlice (aA (VX (zG_1 AN s) 3 (zG_0 AC s))) (aA (VX (zG_1 AN s) 4 (zG_0 AC s))) (VX (zG_1 AN s)
 5 (zG_0 AC s)==[255]) []!=0 then R zG_3 [.ro true []]else bif !EB (zG_5 VX AN AC s) (VX (zG_1 AN s) 1 (zG_0 AC s)) .nilSlice (aA (VX (zG_1 AN s) 3
 (zG_0 AC s))) (aA (VX (zG_1 AN s) 4 (zG_0 AC s))) (VX (zG_1 AN s) 5 (zG_0 AC s)==[255]) []==s then R zG_3 [.ro true []]else R (zG_4 VX AN AC s)
 [.ro true []]else False else False else False else False else False else bif aN (VX (zG_1 AN s) 2 (zG_0 AC s))then bif GOKv (zG_1 AN s) (zG_0 AC s)&&
 true then Fits 0 [.str s,.ptr 0 0,.int i64 0,.slice 1 0 (AN (ag s)) false 0 0,.slice 2 0 (AN (VX (zG_1 AN s) 2 (zG_0 AC s))) false 0 0,.ptr
 3 0,.int i64 0] [.row zG_2 31 6,.row (ay 2 (AC (ag s))) 83 2,.row (ay 4 (AC (VX (zG_1 AN s) 2 (zG_0 AC s)))) 83 2,.row [.str
 (zG_5 VX AN AC s),.str (VX (zG_1 AN s) 1 (zG_0 AC s)),.nilSlice,.int i64 0,.int i64 0,.bool false] 31 6] [some (.str s),some (.ptr 0
 0),some (.int i64 0),some (.slice 2 0 (AN (ag s)) false 0 0),some (.slice 4 0 (AN (VX (zG_1 AN s) 2 (zG_0 AC s))) false 0 0),some (.ptr 5 0),
 some (.int i64 0)] [.row zG_2 31 6,.row [.int u8 (bo s),.str (ag s)] 83 2,.row (ay 2 (AC (ag s))) 83 2,.row
 [.int u8 (bo (VX (zG_1 AN s) 0 (zG_0 AC s))),.str (zG_5 VX AN AC s)] 83 2,.row (ay 4 (AC (VX (zG_1 AN s) 2 (zG_0 AC s)))) 83 2,.row
 [.str (zG_5 VX AN AC s),.str (VX (zG_1 AN s) 1 (zG_0 AC s)),.nilSlice,.int i64 0,.int i64 0,.bool false] 31 6]∧bif gN
 {s:=s,lc:=ay 2 (AC (ag s)),nl:=AN (ag s),ds:=ay 4 (AC (VX (zG_1 AN s) 2 (zG_0 AC s))),n:=AN (VX (zG_1 AN s) 2 (zG_0 AC s)),k:=ag (VX (zG_1 AN s) 0 (zG_0 AC s)),g:=VX (zG_1 AN s) 1 (zG_0 AC s),i:=0}
 then(AN (VX (zG_1 AN s) 2 (zG_0 AC s))=0→∀(j:Int),bif GOKv (zG_1 AN s) (zG_0 AC s)&&true then bif GOKv (zG_1 AN s) (zG_0 AC s)&&true then bif GOKv
 (zG_1 AN s) (zG_0 AC s)&&true then bif EOK .nilSlice []then bif EE (zG_5 VX AN AC s) (VX (zG_1 AN s) 1 (zG_0 AC s)) .nilSlice (aA (VX (zG_1 AN s) 3 (zG_0
 AC s))) (aA (VX (zG_1 AN s) 4 (zG_0 AC s))) (VX (zG_1 AN s) 5 (zG_0 AC s)==[255]) []!=0 then R zG_3 [.ro true []]else bif !EB (zG_5 VX AN AC s) (VX
 (zG_1 AN s) 1 (zG_0 AC s)) .nilSlice (aA (VX (zG_1 AN s) 3 (zG_0 AC s))) (aA (VX (zG_1 AN s) 4 (zG_0 AC s))) (VX (zG_1 AN s) 5 (zG_0 AC s)==[255]) []==
 s then R zG_3 [.ro true []]else R (zG_4 VX AN AC s) [.ro true []]else False else False else False else False)∧∀(m:Nat),AN (VX (zG_1 AN s) 2 (zG_0
 AC s))=m+1→∀(j:Int),bif GOKv (zG_1 AN s) (zG_0 AC s)&&true then bif GOKv (zG_1 AN s) (zG_0 AC s)&&true then bif GOKv (zG_1 AN s) (zG_0 AC s)&&
 true then bif EOK (.slice 4 0 (m+1) false 0 0) [.row zG_2 31 6,.row (ay 2 (AC (ag s))) 83 2,.row (ay 4 (AC (VX (zG_1 AN s) 2 (zG_0 AC
 s)))) 83 2,.row [.str (zG_5 VX AN AC s),.str (VX (zG_1 AN s) 1 (zG_0 AC s)),.slice 4 0 (m+1) false 0 0,.int i64 (aA (VX (zG_1 AN s) 3
 (zG_0 AC s))),.int i64 (aA (VX (zG_1 AN s) 4 (zG_0 AC s))),.bool (VX (zG_1 AN s) 5 (zG_0 AC s)==[255])] 31 6,.row (inS (ay 4 (AC (VX
 (zG_1 AN s) 2 (zG_0 AC s))))) 9 1]then bif EE (zG_5 VX AN AC s) (VX (zG_1 AN s) 1 (zG_0 AC s)) (.slice 4 0 (m+1) false 0 0) (aA (VX (zG_1 AN s) 3 (zG_0 AC
 s))) (aA (VX (zG_1 AN s) 4 (zG_0 AC s))) (VX (zG_1 AN s) 5 (zG_0 AC s)==[255]) [.row zG_2 31 6,.row (ay 2 (AC (ag s))) 83 2,.row (ay 4
 (AC (VX (zG_1 AN s) 2 (zG_0 AC s)))) 83 2,.row [.str (zG_5 VX AN AC s),.str (VX (zG_1 AN s) 1 (zG_0 AC s)),.slice 4 0 (m+1) false 0 0,.int
 i64 (aA (VX (zG_1 AN s) 3 (zG_0 AC s))),.int i64 (aA (VX (zG_1 AN s) 4 (zG_0 AC s))),.bool (VX (zG_1 AN s) 5 (zG_0 AC s)==[255])] 31
 6,.row (inS (ay 4 (AC (VX (zG_1 AN s) 2 (zG_0 AC s))))) 9 1]!=0 then R zG_3 [.ro true []]else bif !EB (zG_5 VX AN AC s) (VX (zG_1 AN s) 1 (zG_0 AC
 s)) (.slice 4 0 (m+1) false 0 0) (aA (VX (zG_1 AN s) 3 (zG_0 AC s))) (aA (VX (zG_1 AN s) 4 (zG_0 AC s))) (VX (zG_1 AN s) 5 (zG_0 AC s)==[255])
 [.row zG_2 31 6,.row (ay 2 (AC (ag s))) 83 2,.row (ay 4 (AC (VX (zG_1 AN s) 2 (zG_0 AC s)))) 83 2,.row [.str (zG_5 VX AN AC s),.str
 (VX (zG_1 AN s) 1 (zG_0 AC s)),.slice 4 0 (m+1) false 0 0,.int i64 (aA (VX (zG_1 AN s) 3 (zG_0 AC s))),.int i64 (aA (VX (zG_1 AN s)
 4 (zG_0 AC s))),.bool (VX (zG_1 AN s) 5 (zG_0 AC s)==[255])] 31 6,.row (inS (ay 4 (AC (VX (zG_1 AN s) 2 (zG_0 AC s))))) 9 1]==s then R zG_3 [.ro
 true []]else R (.tuple [.agg [.str (zG_5 VX AN AC s),.str (VX (zG_1 AN s) 1 (zG_0 AC s)),.slice 4 0 (m+1) false 0 0,.int i64 (aA (VX (zG_1
 AN s) 3 (zG_0 AC s))),.int i64 (aA (VX (zG_1 AN s) 4 (zG_0 AC s))),.bool (VX (zG_1 AN s) 5 (zG_0 AC s)==[255])],.int i64 0])
 [.dead,.dead,.dead,.dead,.row (inS (ay 4 (AC (VX (zG_1 AN s) 2 (zG_0 AC s))))) 9 1]else False else False else False else False else False
 else False else False else False else False else False else False else False):=by kernel_rfl
theorem alF_bad:∀(k:Nat) (s:List UInt8) (acc:List IT),(alF k s acc).2≠0→(alF k s acc).1=[]
 |0,s,acc,h=>by simp[alF]at h
 |k+1,s,acc,h=>by
  simp only[alF]at h ⊢;split at h
  ·simp at h
  ·rename_i hs;rw[if_neg hs];split at h
   ·rename_i h0;rw[if_pos h0];split at h
    ·rename_i ha;rw[if_pos ha]
    ·rename_i ha;rw[if_neg ha];exact alF_bad k _ _ h
   ·rename_i h0;rw[if_neg h0]
theorem all_none{s:List UInt8}(h:allE s≠0):allI s=[]:=alF_bad _ _ _ h
theorem mem_cat:∀{L:List IT},(∀x∈L,fp x)→∀y∈L,y.2.length≤(catI L).length
 |[],_,y,h=>by cases h
 |x::r,hg,y,h=>by
  have e:catI (x::r)=putB x.1 x.2++catI r:=rfl;rw[e,List.length_append];rcases List.mem_cons.1 h with rfl|h
  ·have:=jF (hg y (by simp)).2;omega
  ·have:=mem_cat (fun z hz=>hg z (by simp[hz])) y h;omega
theorem item_len{s:List UInt8}(hb:s.length≤1099511627776):∀y∈allI s,y.2.length≤s.length:=by
 intro y hy;by_cases h:allE s=0
 ·obtain⟨h1,h2⟩:=qo hb h;have:=mem_cat h2 y hy;rw[←h1]at this;exact this
 ·rw[all_none h]at hy;cases hy
theorem vX_len{s:List UInt8}(hb:s.length≤1099511627776)(i:Nat):(vX (allI s) i).length≤s.length:=by
 unfold vX;rw[List.getD_eq_getElem?_getD];cases h:(allI s)[i]? with
 |none=>simp
 |some y=>exact item_len hb y (List.mem_of_getElem? h)
def rdC(s:List UInt8):CD:=⟨ag (vX (allI (ag s)) 0),vX (allI (ag s)) 1,(allI (vX (allI (ag s)) 2)).map (·.2),aA (vX (allI (ag s)) 3),aA (vX (allI (ag s)) 4),vX (allI (ag s)) 5==[255]⟩
theorem decR_rd{s:List UInt8}{c:CD}(h:decR s=some c):aH s=0∧allE (ag s)=0∧c=rdC s:=by
 unfold decR at h;cases hl:decide ((s.length:Int)>512)with
 |true=>rw[hl]at h;cases h
 |false=>
 rw[hl,cond_false]at h;unfold decC at h;cases ho:dA s 48 with
 |false=>rw[ho]at h;cases h
 |true=>
 rw[ho,cond_true]at h;unfold dA at ho;simp only[Bool.and_eq_true]at ho;have h0:aH s=0:=beq_iff_eq.1 ho.1;cases ha:(allE (ag s)!=0)with
 |true=>rw[ha]at h;cases h
 |false=>
 rw[ha,cond_false]at h;have ha:allE (ag s)=0:=by simpa using ha
 refine⟨h0,ha,?_⟩;unfold rdC;unfold decT at h;split at h
 ·rename_i x0 x1 x2 x3 x4 x5 hL;rw[hL];rcases iQ h with⟨_,h⟩|⟨_,h⟩
  ·rcases iQ h with⟨_,h⟩|⟨_,h⟩
   ·rcases iQ h with⟨_,h⟩|⟨_,h⟩
    ·cases h
    ·rcases iQ h with⟨_,h⟩|⟨_,h⟩
     ·rcases iQ h with⟨_,h⟩|⟨_,h⟩
      ·cases h;rfl
      ·cases h
     ·cases h
   ·cases h
  ·cases h
 ·cases h
theorem rdw_view{st:St}{b:Nat}{f:List (List UInt8)}{t:TypeId}{sz:Nat}(hb:st[b]?=some (.row (strs f) t sz)):bq st (.slice b 0 f.length false 0 0)=some (true,f):=by
 unfold bq;simp only[fT,hb,Nat.mul_one,List.drop_zero,Nat.zero_add];rw[List.take_of_length_le (by rw[aL];exact Nat.le_refl _),aL,cj,ar,Nat.beq_refl,Nat.ble_eq_true_of_le (Nat.le_refl _)];rfl
theorem rde_all(s:List UInt8)(hk:aN s=true):runM Tryd.prog (RF1 ivOK ivX ecOK ecB ecE allE allN allC) 9 10 21 [.str s] (fun u st=>deQ s u (visF u st)):=by
 refine cast (rde_tree ivOK ivX ecOK ecB ecE allE allN allC s (deQ s)).symm ?_;unfold zG_4 zG_5 zG_3 zG_2 zG_1 zG_0;have hb:=of_decide_eq_true hk;have zero:∀(e:Int) (st:St),e≠0→decR s=none→decE s=e→deQ s (.tuple [.agg [.str [],.str [],.nilSlice,.int .i64 0,.int .i64 0,.bool false],.int .i64 e]) st:=by
  intro e st he h1 h2;have e1:outD s=(.tuple [fQ,.int .i64 e],[]):=by unfold outD;rw[h1,h2]
  refine⟨?_,fun h=>absurd (h2.symm.trans h) he⟩;rw[e1];exact⟨[],[.tuple [fQ,.int .i64 e]],rfl,rfl,FitsM.of trivial,by simp,fun i hi=>by omega⟩
 refine ab (fun h5=>?_) (fun h5=>?_)
 ·exact zero 40 _ (by omega) (by unfold decR;rw[h5];rfl) (by unfold decE;rw[h5];rfl)
 have four:∀(st:St),decR s=none→deQ s (.tuple [.agg [.str [],.str [],.nilSlice,.int .i64 0,.int .i64 0,.bool false],.int .i64 4]) st:=fun st h=>by
  refine zero 4 st (by omega) h ?_;unfold decR at h;unfold decE;rw[h5,cond_false]at h ⊢;rw[h]
 have none_of:(aH s≠0∨allE (ag s)≠0)→decR s=none:=fun h=>by
  cases hd:decR s with
  |none=>rfl
  |some c=>
   obtain⟨h1,h2,_⟩:=decR_rd hd;rcases h with h|h
   ·exact absurd h1 h
   ·exact absurd h2 h
 have hx:(ag s).length≤s.length:=oD s;have ox:aN (ag s)=true:=decide_eq_true (by omega);have ov:∀i,aN (vX (allI (ag s)) i)=true:=fun i=>decide_eq_true (by have:=vX_len (s:=ag s) (by omega) i;omega);rw[hk,ox,cond_true,Bool.true_and,cond_true]
 -- what the document reads, and whether it is told
 have bad:∀(st:St),(encE (rdC s).k (rdC s).g (rdC s).l (rdC s).f (rdC s).u (rdC s).ca≠0∨encB (rdC s).k (rdC s).g (rdC s).l (rdC s).f (rdC s).u (rdC s).ca≠s)→deQ s (.tuple [.agg [.str [],.str [],.nilSlice,.int .i64 0,.int .i64 0,.bool false],.int .i64 4]) st:=fun st h=>by
  refine four st ?_;cases hd:decR s with
  |none=>rfl
  |some c=>
   obtain⟨_,_,rfl⟩:=decR_rd hd;obtain⟨e1,e2,_⟩:=dec_enc hd;rcases h with h|h
   ·exact absurd e1 h
   ·exact absurd e2 h
 have good:encE (rdC s).k (rdC s).g (rdC s).l (rdC s).f (rdC s).u (rdC s).ca=0→encB (rdC s).k (rdC s).g (rdC s).l (rdC s).f (rdC s).u (rdC s).ca=s→decR s=some (rdC s):=fun h1 h2=>by
  have:=enc_dec h1;rw[h2]at this;exact this
 have oke:∀(st:St),decR s=some (rdC s)→(rdC s).l=[]→(∃b:Nat,st[b]?=some (Blk.ro true []))→deQ s (.tuple [.agg [.str (rdC s).k,.str (rdC s).g,.nilSlice,.int .i64 (rdC s).f,.int .i64 (rdC s).u,.bool (rdC s).ca],.int .i64 0]) st:=fun st h1 h2 h3=>by
  have e1:outD s=(.tuple [.agg [.str (rdC s).k,.str (rdC s).g,.nilSlice,.int .i64 (rdC s).f,.int .i64 (rdC s).u,.bool (rdC s).ca],.int .i64 0],[]):=by unfold outD;rw[h1];simp only[h2]
  refine⟨?_,fun _ _=>h3⟩;rw[e1];exact⟨[],[.tuple [.agg [.str (rdC s).k,.str (rdC s).g,.nilSlice,.int .i64 (rdC s).f,.int .i64 (rdC s).u,.bool (rdC s).ca],.int .i64 0]],rfl,rfl,FitsM.of trivial,by simp,fun i hi=>by omega⟩
 have okn:∀(st:St) (b m:Nat),decR s=some (rdC s)→(rdC s).l.length=m+1→st[b]?=some (.row (strs (rdC s).l) 9 1)→deQ s (.tuple [.agg [.str (rdC s).k,.str (rdC s).g,.slice b 0 (m+1) false 0 0,.int .i64 (rdC s).f,.int .i64 (rdC s).u,.bool (rdC s).ca],.int .i64 0]) st:=fun st b m h1 h2 h3=>by
  cases hl:(rdC s).l with
  |nil=>rw[hl]at h2;cases h2
  |cons a r=>
   have e1:outD s=(.tuple [.agg [.str (rdC s).k,.str (rdC s).g,.slice 0 0 (a::r).length false 0 0,.int .i64 (rdC s).f,.int .i64 (rdC s).u,.bool (rdC s).ca],.int .i64 0],[.row (strs (a::r)) 9 1]):=by unfold outD;rw[h1];simp only[hl]
   refine⟨?_,fun _ h=>by rw[e1]at h;cases h⟩;rw[e1,←h2,hl];rw[hl]at h3;exact⟨[b],[.tuple [.agg [.str (rdC s).k,.str (rdC s).g,.slice b 0 (a::r).length false 0 0,.int .i64 (rdC s).f,.int .i64 (rdC s).u,.bool (rdC s).ca],.int .i64 0]],rfl,rfl,FitsM.of ⟨.inr ⟨_,.inl (by simp only[renB,fU]),h3⟩,trivial⟩,by simp,fun i hi=>by omega⟩
 have nil_gk:ivOK .nilSlice []=true:=rfl;have nil_ek:ecOK .nilSlice []=true:=rfl;have nil_eE:(rdC s).l=[]→ecE (rdC s).k (rdC s).g .nilSlice (rdC s).f (rdC s).u (rdC s).ca []=encE (rdC s).k (rdC s).g (rdC s).l (rdC s).f (rdC s).u (rdC s).ca:=fun h=>by rw[h];rfl
 have nil_eB:(rdC s).l=[]→ecB (rdC s).k (rdC s).g .nilSlice (rdC s).f (rdC s).u (rdC s).ca []=encB (rdC s).k (rdC s).g (rdC s).l (rdC s).f (rdC s).u (rdC s).ca:=fun h=>by rw[h];rfl
 -- where no name is told
 have nilEnd:(rdC s).l=[]→(bif ecE (ag (vX (allI (ag s)) 0)) (vX (allI (ag s)) 1) .nilSlice (aA (vX (allI (ag s)) 3)) (aA (vX (allI (ag s)) 4)) (vX (allI (ag s)) 5==[255]) []!=0 then deQ s (V.tuple [V.agg [V.str [],V.str [],V.nilSlice,V.int i64 0,V.int i64 0,V.bool false],V.int i64 4]) [Blk.ro true []]
   else bif !ecB (ag (vX (allI (ag s)) 0)) (vX (allI (ag s)) 1) .nilSlice (aA (vX (allI (ag s)) 3)) (aA (vX (allI (ag s)) 4)) (vX (allI (ag s)) 5==[255]) []==s then deQ s (V.tuple [V.agg [V.str [],V.str [],V.nilSlice,V.int i64 0,V.int i64 0,V.bool false],V.int i64 4]) [Blk.ro true []]
   else deQ s (V.tuple [V.agg [V.str (ag (vX (allI (ag s)) 0)),V.str (vX (allI (ag s)) 1),V.nilSlice,V.int i64 (aA (vX (allI (ag s)) 3)),V.int i64 (aA (vX (allI (ag s)) 4)),V.bool (vX (allI (ag s)) 5==[255])],V.int i64 0]) [Blk.ro true []]):=fun hl=>by
  refine ab (fun h=>bad _ (.inl ?_)) (fun h=>ab (fun h1=>bad _ (.inr ?_)) (fun h1=>oke _ (good ?_ ?_) hl ⟨0,rfl⟩))
  ·rw[←nil_eE hl];have h:(ecE (rdC s).k (rdC s).g .nilSlice (rdC s).f (rdC s).u (rdC s).ca []!=0)=true:=h;simpa using h
  ·rw[←nil_eB hl];have h1:(!ecB (rdC s).k (rdC s).g .nilSlice (rdC s).f (rdC s).u (rdC s).ca []==s)=true:=h1;simpa using h1
  ·rw[←nil_eE hl];have h:(ecE (rdC s).k (rdC s).g .nilSlice (rdC s).f (rdC s).u (rdC s).ca []!=0)=false:=h;simpa using h
  ·rw[←nil_eB hl];have h1:(!ecB (rdC s).k (rdC s).g .nilSlice (rdC s).f (rdC s).u (rdC s).ca []==s)=false:=h1;simpa using h1
 have names_nil:∀{y:List UInt8},(allN y).beq 0=true→allI y=[]:=fun h=>List.length_eq_zero_iff.1 (Nat.eq_of_beq_eq_true h);refine ab (fun hn=>?_) (fun hn=>?_)
 ·have hL:=names_nil hn;have vx:∀k,ivX .nilSlice k []=vX (allI (ag s)) k:=fun k=>by rw[hL];rfl
  have e2:allI (vX (allI (ag s)) 2)=[]:=by rw[hL];rfl
  have hl:(rdC s).l=[]:=by unfold rdC;simp only;rw[e2];rfl
  have hz:(allN (vX (allI (ag s)) 2)).beq 0=true:=by unfold allN;rw[e2];rfl
  refine ab (fun h=>four _ (none_of (.inl (by simpa using h)))) (fun h=>ab (fun h2=>four _ (none_of (.inr (by simpa using h2)))) (fun h2=>?_));simp only[nil_gk,vx,ov,hz,nil_ek,Bool.and_self,cond_true];exact nilEnd hl
 ·have cs:∀k y,ay k (allC y)=aj (allI y):=fun k y=>fC k _;have sm:=el (ag s);have view:nx [Blk.ro false (aj (allI (ag s)))] (V.slice 0 0 (allN (ag s)) false 0 0)=some (true,allI (ag s)):=by
   unfold nx allN;simp only[fT,List.getElem?_cons_zero,List.drop_zero];rw[List.take_of_length_le (by rw[dl];exact Nat.le_refl _),kZ,bT,Nat.beq_refl,Nat.ble_eq_true_of_le (by rw[dl];omega)];rfl
  have gk:ivOK (V.slice 0 0 (allN (ag s)) false 0 0) [Blk.ro false (aj (allI (ag s)))]=true:=by
   unfold ivOK;rw[view];show(true&&(Nat.ble (allI (ag s)).length 9223372036854775807&&(am (aj (allI (ag s)))&&true)))=true;rw[dW,Nat.ble_eq_true_of_le (by omega)];rfl
  have vx:∀k,ivX (V.slice 0 0 (allN (ag s)) false 0 0) k [Blk.ro false (aj (allI (ag s)))]=vX (allI (ag s)) k:=fun k=>by unfold ivX;rw[view]
  refine ab (fun h=>four _ (none_of (.inl (by simpa using h)))) (fun h=>ab (fun h2=>four _ (none_of (.inr (by simpa using h2)))) (fun h2=>?_));simp only[cs,gk,vx,ov,nil_ek,Bool.and_self,Bool.true_and,cond_true];refine ab (fun hz=>?_) (fun hz=>?_)
  ·have hl:(rdC s).l=[]:=by unfold rdC;simp only;rw[names_nil hz];rfl
   exact nilEnd hl
  ·have sm2:=el (vX (allI (ag s)) 2);refine⟨⟨[0,2,4,5],[.str s,.ptr 0 0,.int .i64 0,.slice 2 0 (allN (ag s)) false 0 0,.slice 4 0 (allN (vX (allI (ag s)) 2)) false 0 0,.ptr 5 0,.int .i64 0],rfl,rfl,FitsM.of ⟨.inr ⟨_,.inl rfl,rfl⟩,.inr ⟨_,.inl (by simp only[renB,dI]),rfl⟩,.inr ⟨_,.inl (by simp only[renB,dI]),rfl⟩,.inr ⟨_,.inl rfl,rfl⟩,trivial⟩,by decide,fun i hi=>by omega⟩,aa ?_ ⟨fun h0=>?_,fun m hm j=>?_⟩⟩
   ·unfold gN;simp only[Bool.and_eq_true];exact⟨dW _,okLs_mk sm2,Nat.ble_eq_true_of_le (Nat.zero_le _)⟩
   ·rw[h0]at hz;cases hz
   ·have nms:inS (aj (allI (vX (allI (ag s)) 2)))=strs (rdC s).l:=by unfold inS;rw[bT];rfl
    have hlen:(rdC s).l.length=m+1:=by rw[←hm];show List.length (List.map _ _)=_;rw[List.length_map];rfl
    rw[nms];have okl:(rdC s).l.all aN=true:=by
     rw[List.all_eq_true];intro z hz;obtain⟨y,hy,rfl⟩:=List.mem_map.1 hz;have h2:=vX_len (s:=ag s) (by omega) 2;have:=item_len (s:=vX (allI (ag s)) 2) (by omega) y hy;exact decide_eq_true (by omega)
    have views:∀(st:St),st[4]?=some (.row (strs (rdC s).l) 9 1)→bq st (.slice 4 0 (m+1) false 0 0)=some (true,(rdC s).l):=fun st h4=>by
     rw[←hlen];exact rdw_view h4
    have ek:∀(st:St),st[4]?=some (.row (strs (rdC s).l) 9 1)→ecOK (.slice 4 0 (m+1) false 0 0) st=true:=fun st h4=>by
     unfold ecOK;rw[views st h4];show(true&&(Nat.ble (rdC s).l.length 9223372036854775807&&(rdC s).l.all aN))=true;have:(rdC s).l.length≤64:=by rw[hlen,←hm];exact sm2
     rw[okl,Nat.ble_eq_true_of_le (by omega)];rfl
    have eE:∀(st:St),st[4]?=some (.row (strs (rdC s).l) 9 1)→ecE (rdC s).k (rdC s).g (.slice 4 0 (m+1) false 0 0) (rdC s).f (rdC s).u (rdC s).ca st=encE (rdC s).k (rdC s).g (rdC s).l (rdC s).f (rdC s).u (rdC s).ca:=fun st h4=>by
     unfold ecE;rw[views st h4]
    have eB:∀(st:St),st[4]?=some (.row (strs (rdC s).l) 9 1)→ecB (rdC s).k (rdC s).g (.slice 4 0 (m+1) false 0 0) (rdC s).f (rdC s).u (rdC s).ca st=encB (rdC s).k (rdC s).g (rdC s).l (rdC s).f (rdC s).u (rdC s).ca:=fun st h4=>by
     unfold ecB;rw[views st h4]
    refine aa (ek _ rfl) (ab (fun h=>bad _ (.inl ?_)) (fun h=>ab (fun h1=>bad _ (.inr ?_)) (fun h1=>okn _ 4 m (good ?_ ?_) hlen rfl)))
    ·have h:(ecE (rdC s).k (rdC s).g (.slice 4 0 (m+1) false 0 0) (rdC s).f (rdC s).u (rdC s).ca _ !=0)=true:=h;rw[eE _ rfl]at h;simpa using h
    ·have h1:(!ecB (rdC s).k (rdC s).g (.slice 4 0 (m+1) false 0 0) (rdC s).f (rdC s).u (rdC s).ca _==s)=true:=h1;rw[eB _ rfl]at h1;simpa using h1
    ·have h:(ecE (rdC s).k (rdC s).g (.slice 4 0 (m+1) false 0 0) (rdC s).f (rdC s).u (rdC s).ca _ !=0)=false:=h;rw[eE _ rfl]at h;simpa using h
    ·have h1:(!ecB (rdC s).k (rdC s).g (.slice 4 0 (m+1) false 0 0) (rdC s).f (rdC s).u (rdC s).ca _==s)=false:=h1;rw[eB _ rfl]at h1;simpa using h1
theorem decN_gen{g:FuncId}{s:List UInt8}(H:FnSat Tryd.prog g [.str s] [] (fun u st=>deQ s u (visF u st)))(o:V×St)(ho:aC [(Nat.blt 512 s.length,(.tuple [fQ,.int .i64 40],[])),(decE s !=0,(.tuple [fQ,.int .i64 4],[])),(true,outN s)]=some o):FnSat Tryd.prog g [.str s] [] (Is o):=by
 have H1:FnSat Tryd.prog g [.str s] [] (Is (outD s)):=FnSat.fits (H.mono fun u st hq=>oH (nW s) hq.1);have big:Nat.blt 512 s.length=decide ((s.length:Int)>512):=by
  cases hq:decide ((s.length:Int)>512)with
  |true=>have:=of_decide_eq_true hq;exact Nat.ble_eq_true_of_le (by omega)
  |false=>
   have:=of_decide_eq_false hq;cases hb:Nat.blt 512 s.length with
   |false=>rfl
   |true=>have:=Nat.le_of_ble_eq_true hb;omega
 have none_e:∀e,decE s=e→e≠0→outD s=(.tuple [fQ,.int .i64 e],[]):=fun e h he=>by
  cases hd:decR s with
  |none=>unfold outD;rw[hd,h]
  |some c=>exact absurd (h.symm.trans ((jX s).2 ⟨c,hd⟩)) he
 cases hb:Nat.blt 512 s.length with
 |true=>
  rw[hb]at ho;cases ho;have he:decE s=40:=by unfold decE;rw[←big,hb];rfl
  rw[←none_e 40 he (by omega)];exact H1
 |false=>
 rw[hb]at ho;cases he:(decE s !=0)with
 |true=>
  rw[he]at ho;cases ho;have h4:decE s=4:=by
   unfold decE at he ⊢;rw[←big,hb,cond_false]at he ⊢;cases hc:decC s with
   |none=>rfl
   |some _=>rw[hc]at he;cases he
  rw[←none_e 4 h4 (by omega)];exact H1
 |false=>
  rw[he]at ho;cases ho;have hE:decE s=0:=by simpa using he
  obtain⟨c,hc⟩:=(jX s).1 hE;have hdc:dCd s=c:=by unfold dCd;rw[hc];rfl
  cases hn:Nat.beq (dN s) 0 with
  |true=>
   have h0:dL s=[]:=List.eq_nil_of_length_eq_zero (Nat.eq_of_beq_eq_true hn);have hd:dN s=0:=Nat.eq_of_beq_eq_true hn;have hcl:c.l=[]:=by have:=h0;unfold dL at this;rw[hdc]at this;exact this
   have eo:outD s=(.tuple [.agg [.str (dK s),.str (dG s),.nilSlice,.int .i64 (dF s),.int .i64 (dU s),.bool (dCa s)],.int .i64 0],[]):=by
    unfold outD dK dG dF dU dCa;rw[hdc,hc];simp only[hcl]
   intro B W0 m w rargs ha hr;refine(H B W0 m w rargs ha hr).mono ?_;rintro e w' ⟨u,x,m1,s1,rfl,_,h2,h3,hq⟩;obtain⟨b,hb⟩:=hq.2 hE (by rw[eo]);obtain⟨e1,hole,hrel⟩:=visF_rel h3 hb;have hm:m=[]:=List.eq_nil_of_length_eq_zero hr.len;subst hm;obtain⟨σ,us,k1,k2,_⟩:=hq.1;rw[eo]at k2;simp only[renL,renV,Option.some.injEq]at k2;subst k2;simp only[List.map_cons,List.map_nil,List.cons.injEq,Option.some.injEq,and_true]at k1;subst k1;refine⟨(outN s).1,x,[e1],(outN s).2,rfl,fun i e hi=>by simp at hi,?_,by unfold outN;rw[h0];exact hrel,rfl⟩;unfold outN;rw[hd];refine tup_swap (fun y hy=>?_) h2;simp only[real,Option.some.injEq]at hy;subst hy;simp[real,at?,hole]
  |false=>
   have hne:dL s≠[]:=fun e=>by unfold dN at hn;rw[e]at hn;cases hn
   obtain⟨a,r,har⟩:∃a r,c.l=a::r:=by
    cases hl:c.l with
    |nil=>exact absurd (by unfold dL;rw[hdc];exact hl) hne
    |cons a r=>exact⟨a,r,rfl⟩
   have eo:outD s=(.tuple [.agg [.str (dK s),.str (dG s),.slice 0 0 (dN s) false 0 0,.int .i64 (dF s),.int .i64 (dU s),.bool (dCa s)],.int .i64 0],[.row (strs (dL s)) 9 1]):=by
    unfold outD dN dK dG dF dU dCa dL;rw[hdc,hc];simp only[har]
   rw[eo]at H1;refine weak_sat H1 fun B W0 w m x hr hx=>?_;refine⟨m,ro_rel hr,tup_swap (fun y hy=>?_) hx⟩;obtain⟨e,cap,g1,g2,g3,rfl⟩:=bu hy;have hd:dN s≠0:=fun h0=>by rw[h0]at hn;cases hn
   simp only[Bool.false_eq_true,if_false,Nat.sub_zero]at g2;subst g2;have hc:(if e.cap=0 then 0 else 0)=0:=by split<;>rfl
   simp only[real,g1,if_neg hd,if_pos g3,hc,Nat.add_zero]
def rdecT:List V→Option (List (Bool×(V×St)))
 |[.str s]=>some [(aN s&&Nat.blt 512 s.length,(.tuple [fQ,.int .i64 40],[])),(aN s&&decE s !=0,(.tuple [fQ,.int .i64 4],[])),(aN s,outN s)]
 |_=>none
theorem rdec_ok(args:List V)(l:List (Bool×(V×St)))(o:V×St)(h:rdecT args=some l)(ho:aC l=some o):FnSat Tryd.prog 21 args [] (Is o):=by
 unfold rdecT at h;split at h
 ·rename_i s;cases h;cases hk:aN s with
  |false=>rw[hk]at ho;simp[aC]at ho
  |true=>
  rw[hk,Bool.true_and,Bool.true_and]at ho;exact decN_gen (gc ax RF1_ok (rde_all s hk)) o ho
 ·cases h
end Go.Proofs.YtnenadbbhdcaoaaDoor
