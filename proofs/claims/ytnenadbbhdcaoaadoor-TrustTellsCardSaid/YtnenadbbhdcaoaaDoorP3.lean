/- Parts of this work: what the functions come to. -/
import Derived.Test.YtnenadbbhdcaoaaDoorP2
import Derived.Test.YtnenadbbhdcaoaaDoorAwake15
import Derived.Test.YtnenadbbhdcaoaaDoorVmc
import Derived.Test.YtnenadbbhdcaoaaDoorRows
import Derived.WalkKit
import Derived.ProofKit
import Derived.OpenShut
import Derived.ShutString
import Derived.SizedLaws
import Derived.Test.YtnenadbbhdcaoaaDoorP1
import Derived.LaidMore
import Derived.Stop.Joined
import Derived.LaidHandle
namespace Go.Proofs.YtnenadbbhdcaoaaDoor
open Go.IntKind (u8 u16 u32 u64 i8 i16 i32 i64)
open Go Go.Vm Go.RowKit
set_option linter.unusedVariables false
set_option maxRecDepth 100000
set_option linter.unusedSectionVars false
variable [Φ:Frz]
def gvOK(G:List V→St→Option (List (Bool×(V×St))))(args:List V)(st:St):Bool:=match G args st with
 |some [(c,(.bool _,_))]=>c
 |_=>false
def gvB(G:List V→St→Option (List (Bool×(V×St))))(args:List V)(st:St):Bool:=match G args st with
 |some [(_,(.bool b,_))]=>b
 |_=>false
def gvT(OK BV:List V→St→Bool):List V→St→Option (List (Bool×(V×St))):=fun args st=>some [(OK args st,(.bool (BV args st),st))]
theorem jG{P:Program}{g:FuncId}{G:List V→St→Option (List (Bool×(V×St)))}(hs:∀args st l,G args st=some l→∀c v s',l=[(c,(v,s'))]→s'=st)
  (H:∀args s l o,G args s=some l→aI l=some o→FnSat P g args s (Is o))(args:List V)(s:St)(l:List (Bool×(V×St)))(o:V×St)(h:gvT (gvOK G) (gvB G) args s=some l)(ho:aI l=some o):FnSat P g args s (Is o):=by
 unfold gvT at h;cases h;obtain⟨hb,rfl⟩:=aT ho;unfold gvOK at hb;split at hb
 ·rename_i c b s' hG;have e:=hs args s _ hG c (.bool b) s' rfl;subst e;have:gvB G args s'=b:=by unfold gvB;rw[hG]
  rw[this];exact H args s' _ _ hG (by rw[hb];rfl)
 ·cases hb
theorem hostG_st(args:List V)(st:St)(l:List (Bool×(V×St)))(h:fc args st=some l)(c:Bool)(v:V)(s':St)(hl:l=[(c,(v,s'))]):s'=st:=by
 unfold fc at h;split at h
 ·split at h<;>cases h<;>cases hl<;>rfl
 ·cases h
theorem rhostG_st(args:List V)(st:St)(l:List (Bool×(V×St)))(h:dI args st=some l)(c:Bool)(v:V)(s':St)(hl:l=[(c,(v,s'))]):s'=st:=by
 unfold dI at h;split at h
 ·split at h<;>cases h<;>cases hl<;>rfl
 ·cases h
theorem mG(args:List V)(st:St)(l:List (Bool×(V×St)))(h:cX args st=some l)(c:Bool)(v:V)(s':St)(hl:l=[(c,(v,s'))]):s'=st:=by
 unfold cX at h;split at h
 ·split at h<;>cases h<;>cases hl<;>rfl
 ·cases h
theorem linkG_st(args:List V)(st:St)(l:List (Bool×(V×St)))(h:dU args st=some l)(c:Bool)(v:V)(s':St)(hl:l=[(c,(v,s'))]):s'=st:=by
 unfold dU at h;split at h
 ·split at h<;>cases h<;>cases hl<;>rfl
 ·cases h
theorem anG_st(args:List V)(st:St)(l:List (Bool×(V×St)))(h:anG args st=some l)(c:Bool)(v:V)(s':St)(hl:l=[(c,(v,s'))]):s'=st:=by
 unfold anG at h;split at h
 ·split at h<;>cases h<;>cases hl<;>rfl
 ·cases h
noncomputable def TT0(LO SO:V→St→Bool)(LB SB:V→St→Bool)(O1 O2 O3 O4 O5 B1 B2 B3 B4 B5:List V→St→Bool)(SK SV:V→V→St→Bool):Tab:=⟨addT (addP noT 25 awakeF) 26 toldT,
 addS (addS (addS (addS (addS (addS (addS (addS (addS (addS (addS noL 23 (lrGV LO LB)) 24 (loGV SO SB)) 27 (gvT O1 B1)) 28 (gvT O2 B2)) 29 (gvT O3 B3)) 30 (gvT O3 B3)) 31 (gvT O4 B4)) 32 (gvT O4 B4)) 33 (gvT O5 B5)) 34 (gvT O5 B5)) 35 (s01GV SK SV),aK 9⟩
@[reducible] def lzT:LstFlag:=⟨true⟩
noncomputable def zW_0(cs:List V)(i:Int):=[V.str (am (cs.getD (0+i.toNat*6+0) (V.bool false))),V.str (am (cs.getD (0+i.toNat*6+1) (V.bool false))),V.lst (xOfV (cs.getD (0+i.toNat*6+2) (V.bool false))) (nOfV (cs.getD (0+i.toNat*6+2) (V.bool false))) (cP (cs.getD (0+i.toNat*6+2) (V.bool false))),V.int i64 (ai (cs.getD (0+i.toNat*6+3) (V.bool false))),V.int i64 (ai (cs.getD (0+i.toNat*6+4) (V.bool false))),V.bool (bN (cs.getD (0+i.toNat*6+5) (V.bool false)))]
noncomputable def zW_1(cs:List V)(i:Int):=[V.str (am (cs.getD (i.toNat*6+0) (V.bool false))),V.str (am (cs.getD (i.toNat*6+1) (V.bool false))),V.lst (xOfV (cs.getD (i.toNat*6+2) (V.bool false))) (nOfV (cs.getD (i.toNat*6+2) (V.bool false))) (cP (cs.getD (i.toNat*6+2) (V.bool false))),V.int i64 (ai (cs.getD (i.toNat*6+3) (V.bool false))),V.int i64 (ai (cs.getD (i.toNat*6+4) (V.bool false))),V.bool (bN (cs.getD (i.toNat*6+5) (V.bool false)))]
noncomputable def zW_2(x y:Value)(n m:Nat)(cs ds:List V)(h:List UInt8)(now i:Int):=[some (V.lst x n cs),some (V.str h),some (V.int i64 now),some (V.lst y m ds),some (V.bool false),some (V.slice 0 0 n false 0 0),some (V.slice 1 0 m false 0 0),some (V.int i64 i)]
theorem tt_round(LO SO:V→St→Bool)(LB SB:V→St→Bool)(O1 O2 O3 O4 O5 B1 B2 B3 B4 B5:List V→St→Bool)(SK SV:V→V→St→Bool)(x:Value)(n:Nat)(cs:List V)(h:List UInt8)(now:Int)(y:Value)(m:Nat)(ds:List V)(i:Int)(R:Exit→List (Option V)→St→Prop):ak (Z:=lzT) Tryd.prog (TT0 LO SO LB SB O1 O2 O3 O4 O5 B1 B2 B3 B4 B5 SK SV) 9 10 (ac 9) 4 250 [0,1,2,3,8,9,10,11] [.lst x n cs,.str h,.int .i64 now,.lst y m ds,.bool false,.slice 0 0 n false 0 0,.slice 1 0 m false 0 0,.int .i64 i] [.row cs 31 6,.row ds 9 1] R=
 (
 bif decide (i<(↑n:Int))then bif decide (0≤i)&&decide (i<(↑n:Int))then bif (i.toNat*6+6).ble cs.length then bif ao (cs.getD (i.toNat*6+
 0) (.bool false))then bif ao (cs.getD (i.toNat*6+1) (.bool false))then bif bM (cs.getD (i.toNat*6+2) (.bool false))then bif ae
 i64 (cs.getD (i.toNat*6+3) (.bool false))then bif ae i64 (cs.getD (i.toNat*6+4) (.bool false))then bif bh (cs.getD (i.toNat
 *6+5) (.bool false))then bif O1 [.agg (zW_1 cs i),.str h] []then bif decide (0≤i)&&decide (i<(↑n:Int))then bif (0+i.toNat*6+6).ble
 cs.length then bif ao (cs.getD (0+i.toNat*6+0) (.bool false))then bif ao (cs.getD (0+i.toNat*6+1) (.bool false))then bif bM (cs.getD
 (0+i.toNat*6+2) (.bool false))then bif ae i64 (cs.getD (0+i.toNat*6+3) (.bool false))then bif ae i64 (cs.getD (0+
 i.toNat*6+4) (.bool false))then bif bh (cs.getD (0+i.toNat*6+5) (.bool false))then bif O2 [.agg (zW_0 cs i),.str h] []then bif !B1 [.agg
 (zW_1 cs i),.str h] []==B2 [.agg (zW_0 cs i),.str h] []then R .ret (zW_2 x y n m cs ds h now i) [.row cs 31 6,.row ds 9 1]else bif decide (0
 ≤i)&&decide (i<(↑n:Int))then bif (i.toNat*6+6).ble cs.length then bif ao (cs.getD (i.toNat*6+0) (.bool false))then bif ao (cs.getD
 (i.toNat*6+1) (.bool false))then bif bM (cs.getD (i.toNat*6+2) (.bool false))then bif ae i64 (cs.getD (i.toNat*6+3) (.bool
 false))then bif ae i64 (cs.getD (i.toNat*6+4) (.bool false))then bif bh (cs.getD (i.toNat*6+5) (.bool false))then bif O3 [.agg
 (zW_1 cs i),.int i64 now] []then bif decide (0≤i)&&decide (i<(↑n:Int))then bif (0+i.toNat*6+6).ble cs.length then bif ao (cs.getD
 (0+i.toNat*6+0) (.bool false))then bif ao (cs.getD (0+i.toNat*6+1) (.bool false))then bif bM (cs.getD (0+i.toNat*6+2) (.bool
 false))then bif ae i64 (cs.getD (0+i.toNat*6+3) (.bool false))then bif ae i64 (cs.getD (0+i.toNat*6+4) (.bool false))
 then bif bh (cs.getD (0+i.toNat*6+5) (.bool false))then bif O3 [.agg (zW_0 cs i),.int i64 now] []then bif !B3 [.agg (zW_1 cs i),.int
 i64 now] []==B3 [.agg (zW_0 cs i),.int i64 now] []then R .ret (zW_2 x y n m cs ds h now i) [.row cs 31 6,.row ds 9 1]else bif
 decide (0≤i)then bif i.toNat.ble n&&n.ble n then bif O4 [.lst (fQ x i.toNat n 6) (n-i.toNat) (List.take ((n-i.toNat)*6) (List.drop (i.toNat*6)
 cs))] []then bif decide (0≤i)then bif i.toNat.ble n&&n.ble n then bif O4 [.slice 0 (0+i.toNat*6) (n-i.toNat) false (if false=true then 0-i.toNat
 else 0+i.toNat) (if i.toNat=0 then 0 else 0)] [.ro false cs,.ro false ds]then bif !B4 [.lst (fQ x i.toNat n 6) (n-i.toNat) (List.take ((n-
 i.toNat)*6) (List.drop (i.toNat*6) cs))] []==B4 [.slice 0 (0+i.toNat*6) (n-i.toNat) false (if false=true then 0-i.toNat else 0+i.toNat) (if
 i.toNat=0 then 0 else 0)] [.ro false cs,.ro false ds]then R .ret (zW_2 x y n m cs ds h now i) [.row cs 31 6,.row ds 9 1]else bif decide (0
 ≤i)then bif i.toNat.ble n&&n.ble n then bif O5 [.lst (fQ x i.toNat n 6) (n-i.toNat) (List.take ((n-i.toNat)*6) (List.drop (i.toNat*6) cs)),
 .int i64 now,.slice 1 0 m false 0 0] [.ro false cs,.ro false ds]then bif decide (0≤i)then bif i.toNat.ble n&&n.ble n then bif O5 [.slice
 0 (0+i.toNat*6) (n-i.toNat) false (if false=true then 0-i.toNat else 0+i.toNat) (if i.toNat=0 then 0 else 0),.int i64 now,.lst y m ds]
 [.ro false cs,.ro false ds]then bif !B5 [.lst (fQ x i.toNat n 6) (n-i.toNat) (List.take ((n-i.toNat)*6) (List.drop (i.toNat*6) cs)),.int
 i64 now,.slice 1 0 m false 0 0] [.ro false cs,.ro false ds]==B5 [.slice 0 (0+i.toNat*6) (n-i.toNat) false (if false=true then 0-
 i.toNat else 0+i.toNat) (if i.toNat=0 then 0 else 0),.int i64 now,.lst y m ds] [.ro false cs,.ro false ds]then R .ret (zW_2 x y n m
 cs ds h now i) [.row cs 31 6,.row ds 9 1]else R .normal [some (.lst x n cs),some (.str h),some (.int i64 now),some (.lst y m ds),some
 (.bool false),some (.slice 0 0 n false 0 0),some (.slice 1 0 m false 0 0),some (.int i64 (i64.wrap (i+1)))] [.row cs 31 6,.row ds
 9 1]else False else False else False else False else False else False else False else False else False else False else False else False else False else False
 else False else False else False else False else False else False else False else False else False else False else False else False else False else False else
 False else False else False else False else False else False else False else False else False else False else False else False else False else False else False
 else False else False else False else False else False else R (.exit 0) (zW_2 x y n m cs ds h now i) [.row cs 31 6,.row ds 9 1]):=by kernel_rfl
theorem iR(st:St):∀L:List CX,(∀y∈L,y.c.l.length≤9223372036854775807)→isCr st (crs L)=true
 |[],_=>rfl
 |y::r,h=>by
  have h1:=nmOk_lst st y.x y.c.l (h y (by simp));have h2:=iR st r (fun z hz=>h z (by simp[hz]));unfold isCr at h2 ⊢;show(ao (.str y.c.k)&&(ao (.str y.c.g)&&(nmOk st (lstS y.x y.c.l)&&(ae .i64 (.int .i64 y.c.f)&&(ae .i64 (.int .i64 y.c.u)&&(bh (.bool y.c.ca)&&isCg (nmOk st) (crs r)))))))=true;rw[h1,h2];rfl
theorem mV(st:St)(x:Value)(L:List CX)(hL:∀y∈L,y.c.l.length≤9223372036854775807):dC st (.lst x L.length (crs L))=some (true,L.map (·.c)):=by
 simp only[dC,c8,iR st L hL,di,List.length_map,Nat.beq_refl,fF,Bool.and_true];rw[Nat.mul_comm,Nat.beq_refl]
theorem vR_slice{st:St}{b i:Nat}{z:Bool}{L:List CX}(hL:∀y∈L,y.c.l.length≤9223372036854775807)(hi:i≤L.length)(h:st[b]?=some (.ro z (crs L)))(e:Bool)(c d:Nat):dC st (.slice b (i*6) (L.length-i) e c d)=some (true,(L.drop i).map (·.c)):=by
 have h1:((crs L).drop (i*6)).take ((L.length-i)*6)=crs (L.drop i):=by
  rw[Nat.mul_comm i 6,lv,List.take_of_length_le (by rw[fF,List.length_drop];omega)]
 have h2:Nat.ble (i*6+(L.length-i)*6) (crs L).length=true:=Nat.ble_eq_true_of_le (by rw[fF];omega);have h3:∀y∈L.drop i,y.c.l.length≤9223372036854775807:=fun y hy=>hL y (List.mem_of_mem_drop hy);simp only[dC,c8,h,h1,h2,iR st _ h3,di,List.length_map,List.length_drop,Nat.beq_refl,Bool.and_true]
theorem fh(st:St)(x:Value)(l:List (List UInt8)):bw st (.lst x l.length (strs l))=some (true,l):=by
 simp only[bw,c8,aU,Nat.mul_one,Nat.beq_refl,cr,aA,Bool.and_self]
theorem vS_slice{st:St}{b:Nat}{z:Bool}{l:List (List UInt8)}(h:st[b]?=some (.ro z (strs l)))(e:Bool)(c d:Nat):bw st (.slice b 0 l.length e c d)=some (true,l):=by
 have h2:Nat.ble (0+l.length*1) l.length=true:=Nat.ble_eq_true_of_le (by omega);have h1:((strs l).drop 0).take (l.length*1)=strs l:=by rw[List.drop_zero,List.take_of_length_le (by rw[aU];omega)]
 simp only[bw,c8,h,h1,h2,aU,Nat.beq_refl,cr,aA,Bool.and_self]
theorem cz_crs:∀cs:List V,isCz cs=true→∃L:List CX,cs=crs L∧∀y∈L,y.c.l.length≤9223372036854775807
 |[],_=>⟨[],rfl,fun y hy=>by cases hy⟩
 |[_],h=>by cases h
 |[_,_],h=>by cases h
 |[_,_,_],h=>by cases h
 |[_,_,_,_],h=>by cases h
 |[_,_,_,_,_],h=>by cases h
 |a::b::c::d::e::f::r,h=>by
  have h:(ao a&&(ao b&&(nmZ c&&(ae .i64 d&&(ae .i64 e&&(bh f&&isCz r))))))=true:=h;simp only[Bool.and_eq_true]at h;obtain⟨h1,h2,h3,h4,h5,h6,h7⟩:=h;obtain⟨k,rfl⟩:=dV h1;obtain⟨g,rfl⟩:=dV h2;obtain⟨i,rfl⟩:=dW h4;obtain⟨j,rfl⟩:=dW h5;obtain⟨t,rfl⟩:=gB h6;obtain⟨L,rfl,hL⟩:=cz_crs r h7;unfold nmZ at h3;rw[Bool.and_eq_true]at h3;obtain⟨x,l,rfl,hl⟩:∃x l,c=lstS x l∧l.length≤9223372036854775807:=by
   cases c<;>first|(simp[bM]at h3;done)|skip
   rename_i x n ds;have h3:=h3.2;simp only[nmOk,bw,c8,Bool.and_eq_true]at h3;obtain⟨⟨_,h9,h10⟩,h8⟩:=h3;have h10:=Nat.eq_of_beq_eq_true h10;refine⟨x,ds.map am,?_,Nat.le_of_ble_eq_true h8⟩;unfold lstS;rw[gm h9,List.length_map,h10]
  exact⟨⟨⟨k,g,l,i,j,t⟩,x⟩::L,rfl,fun y hy=>by
   rcases List.mem_cons.1 hy with rfl|hy
   ·exact hl
   ·exact hL y hy⟩
noncomputable def TTn:Tab:=TT0 lrOK loOK lrB loB (gvOK fc) (gvOK dI) (gvOK cX) (gvOK dU) (gvOK anG) (gvB fc) (gvB dI) (gvB cX) (gvB dU) (gvB anG) kz s01B
theorem TTn_ok:TabOk3 Tryd.prog TTn:=⟨ba (aW aB awakeF_ok) told_ok,
 bW (bW (bW (bW (bW (bW (bW (bW (bW (bW (bW aC lrG_ok) loG_ok) (jG hostG_st hostG_ok)) (jG rhostG_st rhostG_ok)) (jG mG mH)) (jG mG kF)) (jG linkG_st linkG_ok)) (jG linkG_st lX)) (jG anG_st anG_ok)) (jG anG_st ranG_ok)) s01G_ok,al 9⟩
section
variable {k g h:List UInt8} {x:Value} {l:List (List UInt8)} {f u now:Int} {ca:Bool} (hl:l.length≤9223372036854775807)
include hl
theorem tt_h1:gvOK fc [.agg [.str k,.str g,.lst x l.length (strs l),.int .i64 f,.int .i64 u,.bool ca],.str h] []=true∧gvB fc [.agg [.str k,.str g,.lst x l.length (strs l),.int .i64 f,.int .i64 u,.bool ca],.str h] []=hasH l h:=by
 simp only[gvOK,gvB,fc,fh,Nat.ble_eq_true_of_le hl,Bool.and_self,and_self]
theorem tt_h2(h1:l.all aO=true)(h2:aO h=true):gvOK dI [.agg [.str k,.str g,.lst x l.length (strs l),.int .i64 f,.int .i64 u,.bool ca],.str h] []=true∧gvB dI [.agg [.str k,.str g,.lst x l.length (strs l),.int .i64 f,.int .i64 u,.bool ca],.str h] []=hasH l h:=by
 simp only[gvOK,gvB,dI,fh,Nat.ble_eq_true_of_le hl,h1,h2,Bool.and_self,and_self]
theorem tt_h3:gvOK cX [.agg [.str k,.str g,.lst x l.length (strs l),.int .i64 f,.int .i64 u,.bool ca],.int .i64 now] []=true:=by
 simp only[gvOK,cX,fh]
end
section
variable {st:St} {p q:V} {M:List CR} {an:List (List UInt8)} {now:Int}
theorem tt_l(h1:dC st p=some (true,M))(h2:M.length≤9223372036854775807):gvOK dU [p] st=true∧gvB dU [p] st=bD M:=by
 simp only[gvOK,gvB,dU,h1,Nat.ble_eq_true_of_le h2,Bool.and_self,and_self]
theorem tt_a(h1:dC st p=some (true,M))(h2:M.length≤9223372036854775807)(h3:bw st q=some (true,an))(h4:an.length≤9223372036854775807):gvOK anG [p,.int .i64 now,q] st=true∧gvB anG [p,.int .i64 now,q] st=dH now an none M:=by
 simp only[gvOK,gvB,anG,h1,h3,Nat.ble_eq_true_of_le h2,Nat.ble_eq_true_of_le h4,Bool.and_self,and_self]
end
structure TTX where
 x:Value
 n:Nat
 cs:List V
 h:List UInt8
 now:Int
 y:Value
 m:Nat
 ds:List V
 i:Nat
def ttV(q:TTX):List V:=[.lst q.x q.n q.cs,.str q.h,.int .i64 q.now,.lst q.y q.m q.ds,.bool false,.slice 0 0 q.n false 0 0,.slice 1 0 q.m false 0 0,.int .i64 q.i]
def ttJ(q:TTX):St:=[.row q.cs 31 6,.row q.ds 9 1]
def j0(cs:List V):Bool:=(crD [] cs).all fun c=>c.l.all aO
def iv(q:TTX):Bool:=okR q.n q.cs&&(okS q.m q.ds&&(j0 q.cs&&(aO q.h&&Nat.ble q.i q.n)))
def ttMu(q:TTX):Nat:=q.n-q.i
def ttDec:List (Option V)→St→Option TTX
 |[some (.lst x n cs),some (.str h),some (.int .i64 now),some (.lst y m ds),some (.bool false),some (.slice _ _ _ _ _ _),some (.slice _ _ _ _ _ _),some (.int .i64 0)],_=>some ⟨x,n,cs,h,now,y,m,ds,0⟩
 |_,_=>none
def ttOutG(x:Value)(n:Nat)(cs:List V)(h:List UInt8)(now:Int)(y:Value)(m:Nat)(ds:List V)(K:Exit→List V→St→Prop):Prop:=
 K (.exit 0) [.lst x n cs,.str h,.int .i64 now,.lst y m ds,.bool false,.slice 0 0 n false 0 0,.slice 1 0 m false 0 0,.int .i64 n] [.row cs 31 6,.row ds 9 1]
def ttOut:Asks TTX:=fun q K=>ttOutG q.x q.n q.cs q.h q.now q.y q.m q.ds K
theorem jS(x:Value)(n:Nat)(cs:List V)(h:List UInt8)(now:Int)(y:Value)(m:Nat)(ds:List V)(i:Int)(hc:aq cs=true)(hd:aq ds=true)(a b:Nat)(hab:a≠b){st:St}(h0:st[a]?=some (.row cs 31 6))(h1:st[b]?=some (.row ds 9 1)):
  Fits 0 [.lst x n cs,.str h,.int .i64 now,.lst y m ds,.bool false,.slice 0 0 n false 0 0,.slice 1 0 m false 0 0,.int .i64 i] [.row cs 31 6,.row ds 9 1] [some (.lst x n cs),some (.str h),some (.int .i64 now),some (.lst y m ds),some (.bool false),some (.slice a 0 n false 0 0),some (.slice b 0 m false 0 0),some (.int .i64 i)] st:=
 ⟨[a,b],[.lst x n cs,.str h,.int .i64 now,.lst y m ds,.bool false,.slice a 0 n false 0 0,.slice b 0 m false 0 0,.int .i64 i],rfl,rfl,FitsM.of ⟨.inr ⟨.row cs 31 6,.inl (by simp only[renB,a9 _ hc]),h0⟩,.inr ⟨.row ds 9 1,.inl (by simp only[renB,a9 _ hd]),h1⟩,trivial⟩,by simp[hab],fun i hi=>by omega⟩
theorem tt_roundOk(q:TTX)(hq:iv q=true):ak (Z:=lzT) Tryd.prog TTn 9 10 (ac 9) 4 250 [0,1,2,3,8,9,10,11] (ttV q) (ttJ q) (ap 0 iv ttV ttJ ttMu ttOut q):=by
 obtain⟨x,n,cs,h,now,y,m,ds,i⟩:=q;unfold iv at hq;simp only[Bool.and_eq_true]at hq;have hx1:okR n cs=true:=hq.1;have hx2:okS m ds=true:=hq.2.1;have hx3:j0 cs=true:=hq.2.2.1;have hx4:aO h=true:=hq.2.2.2.1;have p1:i≤n:=Nat.le_of_ble_eq_true hq.2.2.2.2;obtain⟨p2,p3,p4,p5⟩:=dc hx1;obtain⟨an,rfl,rfl,p6,p7⟩:=cL hx2;obtain⟨L,rfl,hL⟩:=cz_crs cs p2;obtain rfl:n=L.length:=by rw[←p3,di,List.length_map]
 show ak (Z:=lzT) Tryd.prog TTn 9 10 (ac 9) 4 250 [0,1,2,3,8,9,10,11] [.lst x L.length (crs L),.str h,.int .i64 now,.lst y an.length (strs an),.bool false,.slice 0 0 L.length false 0 0,.slice 1 0 an.length false 0 0,.int .i64 i] [.row (crs L) 31 6,.row (strs an) 9 1] _;unfold TTn;rw[tt_round];unfold zW_2 zW_1 zW_0;by_cases hi:i<L.length
 ·obtain⟨c,r,hd⟩:=head_of (cs:=crs L) (n:=L.length) hi p3;have C:=fL p2 hd;obtain⟨xn,hn⟩:=C.l;have hc:c∈crD [] (crs L):=List.mem_of_mem_drop (by rw[hd];simp);have hok:c.l.all aO=true:=List.all_eq_true.1 hx3 c hc;have d1:decide ((i:Int)<(L.length:Int))=true:=decide_eq_true (by omega);have d2:decide ((0:Int)≤(i:Int))=true:=decide_eq_true (by omega);have l6:(i*6+6).ble (crs L).length=true:=Nat.ble_eq_true_of_le (by omega);have l7:i.ble L.length=true:=Nat.ble_eq_true_of_le (by omega);have l8:L.length.ble L.length=true:=Nat.ble_eq_true_of_le (Nat.le_refl _);have w2:i64.wrap ((i:Int)+1)=((i+1:Nat):Int):=by rw[IntWalk.i64_in _ ⟨by omega,by omega⟩];omega
  have e1:List.take ((L.length-i)*6) (List.drop (i*6) (crs L))=crs (L.drop i):=by
   rw[Nat.mul_comm i 6,lv,List.take_of_length_le (by rw[fF,List.length_drop];omega)]
  have hL':∀y∈L.drop i,y.c.l.length≤9223372036854775807:=fun y hy=>hL y (List.mem_of_mem_drop hy);have hM:((L.drop i).map (·.c)).length≤9223372036854775807:=by rw[List.length_map,List.length_drop];omega
  have v1:∀st X,dC st (.lst X (L.length-i) (crs (L.drop i)))=some (true,(L.drop i).map (·.c)):=fun st X=>by
   have:=mV st X (L.drop i) hL';rw[List.length_drop]at this;exact this
  have v2:∀c z,dC [.ro false (crs L),.ro false (strs an)] (.slice 0 (i*6) (L.length-i) false c z)=some (true,(L.drop i).map (·.c)):=fun c z=>vR_slice (z:=false) hL (by omega) rfl _ _ _;have v3:bw [.ro false (crs L),.ro false (strs an)] (.slice 1 0 an.length false 0 0)=some (true,an):=vS_slice (z:=false) rfl _ _ _;have v4:bw [.ro false (crs L),.ro false (strs an)] (.lst y an.length (strs an))=some (true,an):=fh _ _ _;simp only[Nat.zero_add,d1,d2,Int.toNat_natCast,l6,l7,l8,C.k,C.g,hn,C.f,C.u,C.ca,ao,am,bM,xOfV,nOfV,cP,ae,ai,bh,bN,decide_true,w2,e1,Bool.and_self,cond_true,
   tt_h1 C.ln,tt_h2 C.ln hok hx4,tt_h3 C.ln,tt_l (v1 _ _) hM,tt_l (v2 _ _) hM,tt_a (v1 _ _) hM v3 p6,tt_a (v2 _ _) hM v4 p6,beq_self_eq_true,Bool.not_true,cond_false]
  refine⟨⟨x,L.length,crs L,h,now,y,an.length,strs an,i+1⟩,?_,jS x L.length (crs L) h now y an.length (strs an) ((i+1:Nat):Int) (gg L) (ei an) 0 1 (by decide) rfl rfl,by simp only[ttMu];omega,fun K hK=>hK⟩;unfold iv;simp only[Bool.and_eq_true];exact⟨hx1,hx2,hx3,hx4,Nat.ble_eq_true_of_le (show i+1≤L.length by omega)⟩
 ·rw[decide_eq_false (show ¬((i:Int)<(L.length:Int)) by omega),cond_false];obtain rfl:i=L.length:=by omega
  refine⟨_,_,fun K hK=>?_,jS x L.length (crs L) h now y an.length (strs an) (L.length:Nat) (gg L) (ei an) 0 1 (by decide) rfl rfl⟩;exact hK
noncomputable def lkTT:Nat→Trans→Trans:=gk 250 (isSl 9) (bu 0 (szOf Tryd.prog 4) [0,1,2,3,8,9,10,11] ttDec iv ttV ttJ ttOut) (ac 9)
theorem lkTT_ok:aF Tryd.prog 0 lkTT 4:=by
 unfold lkTT;exact fnLoopCW (aM 9 0 4) (by kernel_rfl) fun f st Q h=>aP (Z:=lzT) (P:=Tryd.prog) (T:=TTn) (k:=0) (lim:=9) (n:=10) (g:=4) (p0:=250) (lk:=ac 9) av TTn_ok (aL 9 _ _) ttMu tt_roundOk h
noncomputable def TT1(LO SO:V→St→Bool)(LB SB:V→St→Bool)(O1 O2 O3 O4 O5 B1 B2 B3 B4 B5:List V→St→Bool)(SK SV:V→V→St→Bool):Tab:=⟨(TT0 LO SO LB SB O1 O2 O3 O4 O5 B1 B2 B3 B4 B5 SK SV).F,(TT0 LO SO LB SB O1 O2 O3 O4 O5 B1 B2 B3 B4 B5 SK SV).L,cp (aK 9) 4 0 lkTT⟩
noncomputable def zW_3(cs:List V):=[V.str (am (cs.getD 0 (V.bool false))),V.str (am (cs.getD 1 (V.bool false))),V.lst (xOfV (cs.getD 2 (V.bool false))) (nOfV (cs.getD 2 (V.bool false))) (cP (cs.getD 2 (V.bool false))),V.int i64 (ai (cs.getD 3 (V.bool false))),V.int i64 (ai (cs.getD 4 (V.bool false))),V.bool (bN (cs.getD 5 (V.bool false)))]
noncomputable def zW_4(cs ds:List V):=[Blk.row cs 31 6,Blk.row ds 9 1]
theorem tt_law(LO SO:V→St→Bool)(LB SB:V→St→Bool)(O1 O2 O3 O4 O5 B1 B2 B3 B4 B5:List V→St→Bool)(SK SV:V→V→St→Bool)(x:Value)(n:Nat)(cs:List V)(h:List UInt8)(now:Int)(y:Value)(m:Nat)(ds:List V)(R:V→Prop):runW Tryd.prog (TT1 LO SO LB SB O1 O2 O3 O4 O5 B1 B2 B3 B4 B5 SK SV) 9 10 4 [.lst x n cs,.str h,.int .i64 now,.lst y m ds] R=
 (
 bif LO (.lst x n cs) []then bif LB (.lst x n cs) []then R (.bool true)else bif SO (.lst y m ds) []then bif SB (.lst y m ds) []then R (.bool true)else
 bif decide ((↑h.length:Int)>3000)then R (.bool true)else bif okR n cs&&(n.ble 1000000&&n.beq 0)then bif m.beq 0 then bif decide (0<(↑n:Int))then
 bif true&&decide (0<(↑n:Int))then bif Nat.ble 6 cs.length then bif ao (cs.getD 0 (.bool false))then bif ao (cs.getD 1 (.bool false))then bif
 bM (cs.getD 2 (.bool false))then bif ae i64 (cs.getD 3 (.bool false))then bif ae i64 (cs.getD 4 (.bool false))then bif bh
 (cs.getD 5 (.bool false))then bif O1 [.agg (zW_3 cs),.str h] []then False else False else False else False else False else False else False else False else
 False else False else bif O4 [.lst x n cs] []then bif O4 [.nilSlice] []then bif B4 [.lst x n cs] []==B4 [.nilSlice] []then bif O5 [.lst x n cs,.int
 i64 now,.slice 0 0 0 false 0 0] [.row [] 9 1]then bif O5 [.nilSlice,.int i64 now,.lst y m ds] []then bif B5 [.lst x n cs,.int
 i64 now,.slice 0 0 0 false 0 0] [.row [] 9 1]==B5 [.nilSlice,.int i64 now,.lst y m ds] []then bif SK (.slice 0 0 0 false 0 0)
 (.lst y m ds) [.row [] 9 1]then bif SV (.slice 0 0 0 false 0 0) (.lst y m ds) [.row [] 9 1]then R (.bool true)else R (.bool false)else False else
 R (.bool false)else False else False else R (.bool false)else False else False else bif ds.length.beq (m*1)&&ds.all V.one then bif (0+m).ble
 9223372036854775807&&((0+m)*16).ble 140737488355328 then bif decide (0<(↑n:Int))then bif true&&decide (0<(↑n:Int))then bif Nat.ble 6 cs.length
 then bif ao (cs.getD 0 (.bool false))then bif ao (cs.getD 1 (.bool false))then bif bM (cs.getD 2 (.bool false))then bif ae i64
 (cs.getD 3 (.bool false))then bif ae i64 (cs.getD 4 (.bool false))then bif bh (cs.getD 5 (.bool false))then bif O1 [.agg (zW_3 cs),.str
 h] []then False else False else False else False else False else False else False else False else False else False else bif O4 [.lst x n cs] []then bif O4
 [.nilSlice] []then bif B4 [.lst x n cs] []==B4 [.nilSlice] []then bif O5 [.lst x n cs,.int i64 now,.slice 1 0 (0+m) false 0 0] [.dead,
 .row ds 9 1]then bif O5 [.nilSlice,.int i64 now,.lst y m ds] []then bif B5 [.lst x n cs,.int i64 now,.slice 1 0 (0+m) false 0 0]
 [.dead,.row ds 9 1]==B5 [.nilSlice,.int i64 now,.lst y m ds] []then bif SK (.slice 1 0 (0+m) false 0 0) (.lst y m ds) [.dead,
 .row ds 9 1]then bif SV (.slice 1 0 (0+m) false 0 0) (.lst y m ds) [.dead,.row ds 9 1]then R (.bool true)else R (.bool false)else False else
 R (.bool false)else False else False else R (.bool false)else False else False else False else False else bif okR n cs&&n.ble 1000000 then bif m.beq 0 then
 Fits 0 [.lst x n cs,.str h,.int i64 now,.lst y m ds,.bool false,.slice 0 0 n false 0 0,.slice 1 0 m false 0 0,.int i64 0] (zW_4 cs
 ds) [some (.lst x n cs),some (.str h),some (.int i64 now),some (.lst y m ds),some (.bool false),some (.slice 0 0 n false 0 0),some (.slice 1
 0 0 false 0 0),some (.int i64 0)] [.row cs 31 6,.row [] 9 1]∧bif iv
 {x:=x,n:=n,cs:=cs,h:=h,now:=now,y:=y,m:=m,ds:=ds,i:=0}then bif O4 [.lst x n cs] []then bif O4 [.slice 0 0 n false 0 0] (zW_4 cs
 ds)then bif B4 [.lst x n cs] []==B4 [.slice 0 0 n false 0 0] (zW_4 cs ds)then bif O5 [.lst x n cs,.int i64 now,.slice 1 0 m false 0 0] (zW_4
 cs ds)then bif O5 [.slice 0 0 n false 0 0,.int i64 now,.lst y m ds] (zW_4 cs ds)then bif B5 [.lst x n cs,.int i64 now,.slice 1 0 m
 false 0 0] (zW_4 cs ds)==B5 [.slice 0 0 n false 0 0,.int i64 now,.lst y m ds] (zW_4 cs ds)then bif SK (.slice 1 0 m false 0 0) (.lst y m ds)
 (zW_4 cs ds)then bif SV (.slice 1 0 m false 0 0) (.lst y m ds) (zW_4 cs ds)then R (.bool true)else R (.bool false)else False else R (.bool false)else
 False else False else R (.bool false)else False else False else False else bif ds.length.beq (m*1)&&ds.all V.one then bif (0+m).ble 9223372036854775807
 &&((0+m)*16).ble 140737488355328 then Fits 0 [.lst x n cs,.str h,.int i64 now,.lst y m ds,.bool false,.slice 0 0 n false 0 0,.slice 1 0
 m false 0 0,.int i64 0] (zW_4 cs ds) [some (.lst x n cs),some (.str h),some (.int i64 now),some (.lst y m ds),some (.bool false),some
 (.slice 0 0 n false 0 0),some (.slice 2 0 (0+m) false 0 0),some (.int i64 0)] [.row cs 31 6,.dead,.row ds 9 1]∧bif iv
 {x:=x,n:=n,cs:=cs,h:=h,now:=now,y:=y,m:=m,ds:=ds,i:=0}then bif O4 [.lst x n cs] []then bif O4 [.slice 0 0 n false 0 0] (zW_4 cs
 ds)then bif B4 [.lst x n cs] []==B4 [.slice 0 0 n false 0 0] (zW_4 cs ds)then bif O5 [.lst x n cs,.int i64 now,.slice 1 0 m false 0 0] (zW_4
 cs ds)then bif O5 [.slice 0 0 n false 0 0,.int i64 now,.lst y m ds] (zW_4 cs ds)then bif B5 [.lst x n cs,.int i64 now,.slice 1 0 m
 false 0 0] (zW_4 cs ds)==B5 [.slice 0 0 n false 0 0,.int i64 now,.lst y m ds] (zW_4 cs ds)then bif SK (.slice 1 0 m false 0 0) (.lst y m ds)
 (zW_4 cs ds)then bif SV (.slice 1 0 m false 0 0) (.lst y m ds) (zW_4 cs ds)then R (.bool true)else R (.bool false)else False else R (.bool false)else
 False else False else R (.bool false)else False else False else False else False else False else False else False else False):=by kernel_rfl
noncomputable def TT1n:Tab:=TT1 lrOK loOK lrB loB (gvOK fc) (gvOK dI) (gvOK cX) (gvOK dU) (gvOK anG) (gvB fc) (gvB dI) (gvB cX) (gvB dU) (gvB anG) kz s01B
theorem TT1n_ok:TabOk3 Tryd.prog TT1n:=⟨TTn_ok.F,TTn_ok.L,bf (al 9) lkTT_ok⟩
theorem lrN_cnt:∀(l:List CR) (n:Nat),lrN n l<6000→n+100*l.length≤lrN n l
 |[],n,_=>Nat.le_refl _
 |c::r,n,h=>by
  unfold lrN at h ⊢;split at h
  ·rename_i hn;rw[if_pos hn];have h1:=lrN_cnt r _ h;have h2:=nO c.l (n+100+min 6000 c.k.length+min 6000 c.g.length);simp only[List.length_cons];omega
  ·omega
theorem loN_cnt:∀(l:List (List UInt8)) (n:Nat),loN n l<6000→n+5*l.length≤loN n l
 |[],n,_=>Nat.le_refl _
 |c::r,n,h=>by
  unfold loN at h ⊢;split at h
  ·rename_i hn;rw[if_pos hn];have h1:=loN_cnt r _ h;simp only[List.length_cons];omega
  ·omega
theorem vR_row{st:St}{b:Nat}{t sz:Nat}{L:List CX}(hL:∀y∈L,y.c.l.length≤9223372036854775807)(h:st[b]?=some (.row (crs L) t sz))(e:Bool)(c d:Nat):dC st (.slice b 0 L.length e c d)=some (true,L.map (·.c)):=by
 have h1:((crs L).drop 0).take (L.length*6)=crs L:=by
  rw[List.drop_zero,List.take_of_length_le (by rw[fF];omega)]
 have h2:Nat.ble (0+L.length*6) (crs L).length=true:=Nat.ble_eq_true_of_le (by rw[fF];omega);simp only[dC,c8,h,h1,h2,iR st _ hL,di,List.length_map,Nat.beq_refl,Bool.and_true]
theorem vS_row{st:St}{b:Nat}{t sz:Nat}{l:List (List UInt8)}(h:st[b]?=some (.row (strs l) t sz))(e:Bool)(c d:Nat):bw st (.slice b 0 l.length e c d)=some (true,l):=by
 have h2:Nat.ble (0+l.length*1) l.length=true:=Nat.ble_eq_true_of_le (by omega);have h1:((strs l).drop 0).take (l.length*1)=strs l:=by rw[List.drop_zero,List.take_of_length_le (by rw[aU];omega)]
 simp only[bw,c8,h,h1,h2,aU,Nat.beq_refl,cr,aA,Bool.and_self]
theorem tt_s{st:St}{p q:V}{an:List (List UInt8)}(h1:bw st p=some (true,an))(h2:bw st q=some (true,an))(h3:an.length≤9223372036854775807):kz p q st=true∧s01B p q st=true:=by
 simp only[kz,s01B,h1,h2,Nat.ble_eq_true_of_le h3,Bool.and_self,and_self,beq_self_eq_true]
theorem strs_one(l:List (List UInt8)):(strs l).all V.one=true:=by
 unfold strs;rw[List.all_map,List.all_eq_true];intro a _;rfl
theorem tt_core(x:Value)(L:List CX)(h:List UInt8)(now:Int)(y:Value)(an:List (List UInt8))(h1:L.length≤9223372036854775807)(hL:∀y∈L,y.c.l.length≤9223372036854775807)(h2:an.length≤9223372036854775807):
  FnSat Tryd.prog 4 [.lst x L.length (crs L),.str h,.int .i64 now,.lst y an.length (strs an)] [] (fun v _=>v=.bool true):=by
 refine runW_ok (lim:=9) (n:=10) av TT1n_ok ?_;unfold TT1n;refine cast (tt_law lrOK loOK lrB loB (gvOK fc) (gvOK dI) (gvOK cX) (gvOK dU) (gvOK anG) (gvB fc) (gvB dI) (gvB cX) (gvB dU) (gvB anG) kz s01B x L.length (crs L) h now y an.length (strs an) (fun v=>v=.bool true)).symm ?_;unfold zW_4 zW_3;have hM:(L.map (·.c)).length≤9223372036854775807:=by rw[List.length_map];exact h1
 have a1:lrOK (.lst x L.length (crs L)) []=true:=by unfold lrOK;rw[mV _ _ _ hL];show(true&&Nat.ble (L.map (·.c)).length 9223372036854775807)=true;rw[Nat.ble_eq_true_of_le hM];rfl
 have a2:lrB (.lst x L.length (crs L)) []=jd (L.map (·.c)):=by unfold lrB;rw[mV _ _ _ hL]
 have a3:loOK (.lst y an.length (strs an)) []=true:=by unfold loOK;rw[fh];show(true&&Nat.ble an.length 9223372036854775807)=true;rw[Nat.ble_eq_true_of_le h2];rfl
 have a4:loB (.lst y an.length (strs an)) []=longS an:=by unfold loB;rw[fh]
 refine aa a1 ?_;rw[a2];refine af (fun _=>rfl) (fun hlarge=>aa a3 ?_);rw[a4];refine af (fun _=>rfl) (fun hlong=>af (fun _=>rfl) (fun hh=>?_));have hnm:=large_names hlarge;have hok:okR L.length (crs L)=true:=i9 h1 hL;have hnames:j0 (crs L)=true:=by unfold j0;rw[di,List.all_eq_true];exact hnm
 have hlen:L.length≤60:=by
  have h3:=of_decide_eq_false hlarge;have:=lrN_cnt (L.map (·.c)) 0 (by omega);rw[List.length_map]at this;omega
 have halen:an.length≤1200:=by
  have h3:=of_decide_eq_false hlong;have:=loN_cnt an 0 (by omega);omega
 have hhl:aO h=true:=by
  have h3:=of_decide_eq_false hh;exact decide_eq_true (by omega)
 have n1:Nat.ble L.length 1000000=true:=Nat.ble_eq_true_of_le (by omega);have s1:(strs an).length.beq (an.length*1)=true:=by rw[aU,Nat.mul_one];exact Nat.beq_refl _
 have s2:(0+an.length).ble 9223372036854775807=true:=Nat.ble_eq_true_of_le (by omega);have s3:((0+an.length)*16).ble 140737488355328=true:=Nat.ble_eq_true_of_le (by omega);have pre:iv ⟨x,L.length,crs L,h,now,y,an.length,strs an,0⟩=true:=by
  unfold iv;simp only[Bool.and_eq_true];exact⟨hok,ey h2,hnames,hhl,Nat.ble_eq_true_of_le (Nat.zero_le _)⟩
 cases L with
 |nil=>
  have r1:∀st x,dC st (.lst x 0 [])=some (true,[]):=fun st x=>rfl;have r2:∀st,dC st .nilSlice=some (true,[]):=fun st=>rfl;have hz:decide (0<((([]:List CX).length:Nat):Int))=false:=rfl;have hzb:Nat.beq ([]:List CX).length 0=true:=rfl;rw[hok,n1,hzb,Bool.true_and,Bool.true_and,cond_true,hz];cases an with
  |nil=>
   have v1:bw [.row [] 9 1] (.slice 0 0 0 false 0 0)=some (true,[]):=rfl;have v2:bw [] (.lst y 0 [])=some (true,[]):=rfl;have v3:bw [.row [] 9 1] (.lst y 0 [])=some (true,[]):=rfl;have b0:Nat.beq ([]:List (List UInt8)).length 0=true:=rfl;have z0:([]:List CR).length≤9223372036854775807:=Nat.zero_le _;have z1:([]:List (List UInt8)).length≤9223372036854775807:=Nat.zero_le _;rw[b0,cond_true,cond_false];simp only[crs,strs,List.map_nil,List.length_nil,tt_l (r1 _ _) z0,tt_l (r2 _) z0,tt_a (r1 _ _) z0 v1 z1,tt_a (r2 _) z0 v2 z1,tt_s v1 v3 z1,cond_true,beq_self_eq_true]
  |cons a t=>
   have b0:Nat.beq (a::t).length 0=false:=rfl;have z0:([]:List CR).length≤9223372036854775807:=Nat.zero_le _;have v1:bw [.dead,.row (strs (a::t)) 9 1] (.slice 1 0 (a::t).length false 0 0)=some (true,a::t):=vS_row rfl _ _ _;have v2:=fh [] y (a::t);have v3:=fh [.dead,.row (strs (a::t)) 9 1] y (a::t);rw[b0,cond_false,s1,strs_one,s2,s3,cond_false];simp only[crs,List.length_nil,Nat.zero_add,tt_l (r1 _ _) z0,tt_l (r2 _) z0,tt_a (r1 _ _) z0 v1 h2,tt_a (r2 _) z0 v2 h2,tt_s v1 v3 h2,cond_true,beq_self_eq_true,Bool.and_self]
 |cons c0 L0=>
  have hzb:Nat.beq (c0::L0).length 0=false:=rfl;rw[hok,n1,hzb,Bool.true_and,Bool.true_and,cond_false,Bool.and_self,cond_true];have r1:=fun st x=>mV st x (c0::L0) hL;have r2:∀D e c d,dC [.row (crs (c0::L0)) 31 6,.row D 9 1] (.slice 0 0 (c0::L0).length e c d)=some (true,(c0::L0).map (·.c)):=fun D e c d=>vR_row hL rfl e c d;have v1:bw [.row (crs (c0::L0)) 31 6,.row (strs an) 9 1] (.slice 1 0 an.length false 0 0)=some (true,an):=vS_row rfl _ _ _;have v2:=fun st=>fh st y an;cases hb:Nat.beq an.length 0 with
  |true=>
   have hz:=Nat.eq_of_beq_eq_true hb;have han:an=[]:=List.eq_nil_of_length_eq_zero hz;rw[cond_true];refine⟨?_,aa pre ?_⟩
   ·subst han;exact jS x _ _ h now y 0 [] 0 (gg _) rfl 0 1 (by decide) rfl rfl
   ·simp only[tt_l (r1 _ _) hM,tt_l (r2 _ _ _ _) hM,tt_a (r1 _ _) hM v1 h2,tt_a (r2 _ _ _ _) hM (v2 _) h2,tt_s v1 (v2 _) h2,cond_true,beq_self_eq_true]
  |false=>
   rw[cond_false,s1,strs_one,s2,s3,Bool.and_self,cond_true,cond_true];refine⟨?_,aa pre ?_⟩
   ·rw[Nat.zero_add];exact jS x _ _ h now y _ _ 0 (gg _) (ei _) 0 2 (by decide) rfl rfl
   ·simp only[tt_l (r1 _ _) hM,tt_l (r2 _ _ _ _) hM,tt_a (r1 _ _) hM v1 h2,tt_a (r2 _ _ _ _) hM (v2 _) h2,tt_s v1 (v2 _) h2,cond_true,beq_self_eq_true]
theorem tt_close(x:Value)(L:List CX)(h:List UInt8)(now:Int)(y:Value)(an:List (List UInt8))(h1:L.length≤9223372036854775807)(hL:∀y∈L,y.c.l.length≤9223372036854775807)(h2:an.length≤9223372036854775807):
 FnSat Tryd.prog 4 [lstR x L,.str h,.int .i64 now,lstS y an] [] (fun v _=>v=.bool true):=tt_core x L h now y an h1 hL h2
end Go.Proofs.YtnenadbbhdcaoaaDoor
namespace Go.Proofs.YtnenadbbhdcaoaaDoor
open Go Go.Vm Go.RowKit
set_option linter.unusedVariables false
set_option maxRecDepth 100000
def crSh:Sh:=.agg [.str,.str,.lst .str,.int .i64,.int .i64,.bool]
theorem crsD:∀(f:Nat) (l:List DD),(∀y∈l,OfSh (f+3) crSh y)→∃L:List CX,l.length=L.length∧bU l=crs L∧∀y∈L,y.c.l.length≤9223372036854775807
 |f,[],_=>⟨[],rfl,rfl,fun y hy=>by cases hy⟩
 |f,d::r,h=>by
  obtain⟨l0,e0,g0⟩:=ofAgg (h d (by simp));obtain⟨d0,l1,e1,a0,g1⟩:=ep g0;obtain⟨d1,l2,e2,a1,g2⟩:=ep g1;obtain⟨d2,l3,e3,a2,g3⟩:=ep g2;obtain⟨d3,l4,e4,a3,g4⟩:=ep g3;obtain⟨d4,l5,e5,a4,g5⟩:=ep g4;obtain⟨d5,l6,e6,a5,g6⟩:=ep g5;have e7:=all2_nil g6;obtain⟨k,hk⟩:=ofStr a0;obtain⟨g,hg⟩:=ofStr a1;obtain⟨x,ds,hx,hl,hy⟩:=ofLst a2;obtain⟨i,hi⟩:=ofInt a3;obtain⟨j,hj⟩:=ofInt a4;obtain⟨b,q5⟩:=ofBool a5;have q0:=hk.1;have q1:=hg.1;have q3:=hi.1;have q4:=hj.1;obtain⟨ls,c1,c2⟩:=strsD f ds hy;have hn:ds.length=ls.length:=by rw[c1,List.length_map]
  subst e0 e1 e2 e3 e4 e5 e6 e7 q0 q1 q3 q4 q5 hx;obtain⟨L,h1,h2,h3⟩:=crsD f r (fun y hy=>h y (by simp[hy]));refine⟨⟨⟨k,g,ls,i,j,b⟩,x⟩::L,by simp[h1],?_,fun y hy=>?_⟩
  ·simp only[bU,eT,h2,crs,c2,hn,lstS];rfl
  ·rcases List.mem_cons.1 hy with rfl|hy
   ·rw[show maxLen=9223372036854775807 by decide,hn]at hl;exact hl
   ·exact h3 y hy
end Go.Proofs.YtnenadbbhdcaoaaDoor
namespace Go.Proofs.YtnenadbbhdcaoaaDoor
open Go Go.Vm Go.RowKit
open Go.ChangeShapes Go.WideShapes Go.ChangeAt
set_option linter.unusedVariables false
set_option linter.unusedSectionVars false
set_option maxRecDepth 100000
def crsSh:Sh:=.lst crSh
theorem crsSh_ok:shOk Tryd.prog 9 crsSh 43=true:=by kernel_rfl
def IsCrs(w:World)(v:Value):Prop:=∃xl l,@real gl (Frz.of w) [] (lstR xl l)=some v∧l.length≤maxLen∧∀y∈l,y.c.l.length≤9223372036854775807
theorem open_Crs{H:Type}{enc:TypeId×Value→H}{W:World}{b0:Nat}{r:Reach}{v:Value}{d:DataW H}{ps:List MemPlace}
  (hval:Value.okWide Tryd.prog W r b0 43 v)(hd:DataW.Trod enc Tryd.prog W 0 (fun _=>true) true 43 v d ps):IsCrs W v:=by
 obtain⟨sa,sl,sc,rfl⟩:=okWide_slice Tryd.underlying43 hval;obtain⟨fuel,hf⟩:=hd;obtain⟨dd,h1,h2⟩:=@jY gl _ _ _ _ _ _ _ 9 crsSh 43 fuel _ _ crsSh_ok hf;obtain⟨xl,ds_l,q_l,w_l,y_l⟩:=ofLst h1;subst q_l;obtain⟨l,n_l,m_l,u_l⟩:=crsD _ ds_l y_l;simp only[eT,bU,m_l,n_l,List.append_nil,List.singleton_append,List.cons_append,List.nil_append]at h2;have h3:=@ek gl (Frz.of W) [] _ _ h2;refine⟨xl,l,?_,by rw[←n_l];exact w_l,u_l⟩;simp only[ad]at h3;split at h3
 ·rename_i q1 q2 q3 q4;obtain⟨e1,_⟩:=List.cons.inj (Option.some.inj h3);subst e1;exact q3
 ·cases h3
def strsSh:Sh:=.lst .str
theorem strsSh_ok:shOk Tryd.prog 9 strsSh 22=true:=by kernel_rfl
def IsStrs(w:World)(v:Value):Prop:=∃xan an,@real gl (Frz.of w) [] (lstS xan an)=some v∧an.length≤maxLen
theorem open_Strs{H:Type}{enc:TypeId×Value→H}{W:World}{b0:Nat}{r:Reach}{v:Value}{d:DataW H}{ps:List MemPlace}
  (hval:Value.okWide Tryd.prog W r b0 22 v)(hd:DataW.Trod enc Tryd.prog W 0 (fun _=>true) true 22 v d ps):IsStrs W v:=by
 obtain⟨sa,sl,sc,rfl⟩:=okWide_slice Tryd.underlying22 hval;obtain⟨fuel,hf⟩:=hd;obtain⟨dd,h1,h2⟩:=@jY gl _ _ _ _ _ _ _ 9 strsSh 22 fuel _ _ strsSh_ok hf;obtain⟨xan,ds_an,q_an,w_an,y_an⟩:=ofLst h1;subst q_an;obtain⟨an,c_an,m_an⟩:=strsD _ ds_an y_an;have n_an:ds_an.length=an.length:=by rw[c_an,List.length_map]
 simp only[eT,bU,m_an,n_an,List.append_nil,List.singleton_append,List.cons_append,List.nil_append]at h2;have h3:=@ek gl (Frz.of W) [] _ _ h2;refine⟨xan,an,?_,by rw[←n_an];exact w_an⟩;simp only[ad]at h3;split at h3
 ·rename_i q1 q2 q3 q4;obtain⟨e1,_⟩:=List.cons.inj (Option.some.inj h3);subst e1;exact q3
 ·cases h3
theorem ml:maxLen=9223372036854775807:=by decide
theorem bytes_str{w:World}(s:ByteArray):@real gl (Frz.of w) [] (.str s.data.toList)=some (.string s):=by simp[real]
theorem jP(v0:Value)(a1:ByteArray)(a2:Int)(v3:Value)(w:World)(x0:IsCrs w v0)(w1:a1.size≤maxLen)(w2:(Lit.int .i64 a2).wf=true)(x3:IsStrs w v3)(hg:@GOk gl (Frz.of w) w.heap.size w):
  Calls Tryd.prog 4 #[v0,.string a1,.int .i64 a2,v3] w (fun e w'=>e=.returned (.bool true)∧Below w.heap.size w w'):=by
 obtain⟨xl_0,l_0,re0,hy_l_0,hyu_l_0⟩:=x0;obtain⟨xan_3,an_3,re3,hy_an_3⟩:=x3;refine @frz_law gl Tryd.prog 4 [lstR xl_0 l_0,.str a1.data.toList,.int .i64 a2,lstS xan_3 an_3] [v0,.string a1,.int .i64 a2,v3] w (@tt_close (Frz.of w) xl_0 l_0 a1.data.toList a2 xan_3 an_3 (by rw[ml]at hy_l_0;exact hy_l_0) hyu_l_0 (by rw[ml]at hy_an_3;exact hy_an_3)) ?_ hg;simp only[ad,bytes_str,re0,re3]
 try rfl
end Go.Proofs.YtnenadbbhdcaoaaDoor
namespace Go.Proofs.YtnenadbbhdcaoaaDoor
open Go Go.Vm Go.RowKit
open Go.ChangeShapes Go.WideShapes Go.ChangeAt Go.WideMaps Go.WideElems
set_option linter.unusedVariables false
set_option linter.unusedSectionVars false
variable [Φ:Frz]
def partsD:DataW Unit→List (DataW Unit)
 |.agg l=>l
 |_=>[]
def ofD:DataW Unit→V
 |.lit (.int k n)=>.int k n
 |_=>.bool false
theorem var_heap{P:Program}{w:World}{n:String}{g:Nat}{cs:Array Value}(hg:P.globalNamed n=some g)(h:w.var? P n=some cs):∃t fz,w.heap[g]?=some (.cells cs t fz):=by
 simp only[World.var?,hg,Option.bind_some]at h;split at h
 ·rename_i c t fz hb;cases h;exact⟨t,fz,hb⟩
 ·cases h
def Cells(W:World)(g:Nat)(C:List V):Prop:=∃arr t fz,W.heap[g]?=some (.cells arr t fz)∧∀i v,C[i]?=some v→∃x,real [] v=some x∧arr[0+i]?=some x
theorem int_cells{W:World}{n:String}{g t0 t e N f0:Nat}{k:IntKind}{C:List V}{d:DataW Unit}{cs0:Array Value}{p0:List MemPlace}{sp:Nat→Bool}{held:Bool}{enc:TypeId×Value→Unit}(hg:Tryd.prog.globalNamed n=some g)(hu:Tryd.prog.underlying t=some (.array N e))(hk:Tryd.prog.underlying e=some (.int k))(hw:Tryd.prog.cellsOf e=1)
  (hd:d=.agg (partsD d))(hC:C=(partsD d).map ofD)(ht0:t0=t)(hv0:W.var? Tryd.prog n=some cs0)(hd0:DataW.trod enc Tryd.prog W 0 sp held f0 t0 cs0.toList=some (d,p0)):Cells W g C:=by
 subst ht0;obtain⟨ty,fz,hheap⟩:=var_heap hg hv0;refine⟨cs0,ty,fz,hheap,fun i v hv=>?_⟩;obtain⟨xs,m1,rfl,hx1,hlen,hn,hel⟩:=DataW.trod_array hu hd0;rw[hd]at hx1;simp only[Prod.mk.injEq,DataW.agg.injEq]at hx1;have hD:=hx1.1;rw[hC,hD,List.getElem?_map,List.getElem?_map]at hv;cases hxi:xs[i]? with
 |none=>rw[hxi]at hv;cases hv
 |some x=>
  rw[hxi]at hv;simp only[Option.map_some,Option.some.injEq]at hv;have hi:i<N:=by rw[←hn];exact(List.getElem?_eq_some_iff.1 hxi).1
  have h1:=hel i hi;rw[hxi,hw,Nat.mul_one]at h1;obtain⟨a,e0,e1,wa⟩:=DataW.trod_int hk h1;subst e1;simp only[ofD]at hv;subst hv;refine⟨.int k a,rfl,?_⟩;rw[Nat.zero_add];have e2:((cs0.toList.drop i).take 1)[0]?=some (Value.int k a):=by rw[e0];rfl
  rw[List.getElem?_take,if_pos (by omega),List.getElem?_drop,Nat.add_zero]at e2;simpa using e2
theorem plain_part{P:Program}{l:List (String×DataW Unit)}{w:World}(h:laidMetH P l w):laidMet P (l.filter fun x=>x.2.handleName?.isNone) w:=by
 unfold laidMetH at h;generalize hfl:(l.filter fun x=>x.2.handleName?.isSome)=fl at h;cases fl with
 |nil=>
  have e:(l.filter fun x=>x.2.handleName?.isNone)=l:=by
   rw[List.filter_eq_self];intro x hx;have:=(List.filter_eq_nil_iff.1 hfl) x hx;cases hn:x.2.handleName? with
   |none=>rfl
   |some s=>rw[hn]at this;exact absurd rfl this
  rw[e];exact h
 |cons a b=>exact h.1
theorem laid_var{P:Program}{w:World}{n:String}{d:DataW Unit}:∀{l:List (String×DataW Unit)} {ps:List MemPlace},DataW.LaidVars P w l ps→(n,d)∈l→∃g t cs fuel p,P.globalNamed n=some g∧(P.globals[g]?).map (·.type)=some t∧w.var? P n=some cs∧DataW.trod (fun _=>()) P w 0 (fun _=>true) false fuel t cs.toList=some (d,p)
 |[],_,_,h=>by cases h
 |(n',d')::r,ps,h,hm=>by
  obtain⟨g,t,cs,fuel,p,q,h1,h2,h3,h4,h5,_⟩:=h;rcases List.mem_cons.1 hm with e|hm
  ·cases e;exact⟨g,t,cs,fuel,p,h1,h2,h3,h4⟩
  ·exact laid_var h5 hm
theorem plain_var{P:Program}{l:List (String×DataW Unit)}{w:World}(h:laidMetH P l w){n:String}{d:DataW Unit}(hm:(n,d)∈l)(hn:d.handleName?.isNone=true):∃g t cs fuel p,P.globalNamed n=some g∧(P.globals[g]?).map (·.type)=some t∧w.var? P n=some cs∧DataW.trod (fun _=>()) P w 0 (fun _=>true) false fuel t cs.toList=some (d,p):=by
 obtain⟨ps,hl,_,_⟩:=plain_part h;exact laid_var hl (List.mem_filter.2 ⟨hm,hn⟩)
theorem own:ownKnob Tryd.prog.godebug=none:=by kernel_rfl
theorem cells_0{W:World}(h:laidMetH Tryd.prog Rows.trustTellsRow.laid W):Cells W 0 keyC:=by
 have hm:("mailroom/code.key",(Rows.laid_mailroom_code_key:DataW Unit))∈Rows.trustTellsRow.laid:=List.mem_of_getElem? (i:=0) rfl;obtain⟨g,t,cs,fuel,p,h1,h2,h3,h4⟩:=plain_var h hm rfl;have e1:Tryd.prog.globalNamed "mailroom/code.key"=some 0:=by kernel_rfl
 obtain rfl:=Option.some.inj (e1.symm.trans h1);have e2:(Tryd.prog.globals[0]?).map (·.type)=some 108:=by kernel_rfl
 exact int_cells (n:= "mailroom/code.key") (t:=108) (e:=103) (N:=64) (k:=.u32) e1 (by kernel_rfl) (by kernel_rfl) (by kernel_rfl) rfl (by kernel_rfl) (Option.some.inj (e2.symm.trans h2)).symm h3 h4
theorem laid_gok{W:World}(hΦ:∀k o,Φ.φ k=some o→W.heap[k]?=some o)(h:laidMetH Tryd.prog Rows.trustTellsRow.laid W):GOk W.heap.size W:=by
 have low:∀{g:Nat} {C:List V},Cells W g C→g<W.heap.size:=fun⟨_,_,_,hh,_⟩=>(Array.getElem?_eq_some_iff.1 hh).1;refine⟨fun k cs hk=>?_,fun k hk=>?_,fun k o hk=>⟨(Array.getElem?_eq_some_iff.1 (hΦ k o hk)).1,hΦ k o hk⟩⟩
 ·have fin:∀{g:Nat} {C:List V},Cells W g C→g<W.heap.size∧∃arr t fz,W.heap[g]?=some (.cells arr t fz)∧(∀i v,C[i]?=some v→∃x,real [] v=some x∧arr[0+i]?=some x):=fun hc=>⟨low hc,hc⟩
  match k,hk with
  |0,hk=>cases hk;obtain⟨a,arr,t,fz,h1,h2⟩:=fin (cells_0 h);exact⟨a,arr,t,fz,h1,h2,fun hf=>by cases hf⟩
  |k+1,hk=>cases hk
 ·cases hk
end Go.Proofs.YtnenadbbhdcaoaaDoor
