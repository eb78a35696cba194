/- Parts of this work: what the functions come to. -/
import Derived.Test.YtmcdajbfomngcaaDoorP1
namespace Go.Vm
def grS(s:List UInt8)(i:Nat):List UInt8:=(s.take i).map g8++s.drop i
def grL(s:List UInt8):List UInt8:=s.map g8
theorem grL_len(s:List UInt8):(grL s).length=s.length:=List.length_map ..
end Go.Vm
namespace Go.Proofs.YtmcdajbfomngcaaDoor
open Go Go.Vm Go.RowKit
set_option linter.unusedVariables false
set_option maxRecDepth 100000
set_option linter.unusedSectionVars false
variable [Φ:Frz]
theorem gr_round(s:List UInt8)(k:Nat)(cs:List V)(i:Int)(R:Exit→List (Option V)→St→Prop):roundW Tryd.prog T3 9 10 (rounds 9) 65 58 [0,2,3,4] [.str s,.str [],.slice 0 0 k false 0 0,.int .i64 i] [.row cs 5 1] R=
  (
 bif decide (i<(↑k:Int))then bif decide (0≤i)&&decide (i<(↑k:Int))then bif (0+i.toNat*1).blt cs.length then bif isIntV IntKind.u8 (cs.getD (0+i.toNat*
 1) (V.bool false))then bif decide (intOfV (cs.getD (0+i.toNat*1) (V.bool false))≥97)then bif decide (0≤i)&&decide (i<(↑k:Int))then bif (0+i.toNat*
 1).blt cs.length then bif isIntV IntKind.u8 (cs.getD (0+i.toNat*1) (V.bool false))then bif decide (intOfV (cs.getD (0+i.toNat*1) (V.bool false))≤122)then bif
 decide (0≤i)&&decide (i<(↑k:Int))then bif (0+i.toNat*1).blt cs.length then bif isIntV IntKind.u8 (cs.getD (0+i.toNat*1) (V.bool false))then bif decide
 (0≤i)&&decide (i<(↑k:Int))then bif true&&(0+i.toNat*1+1).ble cs.length then R Exit.normal [some (V.str s),some (V.str []),some (V.slice 0 0 k false 0
 0),some (V.int IntKind.i64 (IntKind.i64.wrap (i+1)))] [Blk.row (putAt (0+i.toNat*1) [V.int IntKind.u8 (IntKind.u8.wrap (intOfV (cs.getD (0+i.toNat*1) (V.bool
 false))-32))] cs) 5 1]else False else False else False else False else False else R Exit.normal [some (V.str s),some (V.str []),some (V.slice 0 0 k false 0 0),some
 (V.int IntKind.i64 (IntKind.i64.wrap (i+1)))] [Blk.row cs 5 1]else False else False else False else R Exit.normal [some (V.str s),some (V.str []),some (V.slice 0 0 k
 false 0 0),some (V.int IntKind.i64 (IntKind.i64.wrap (i+1)))] [Blk.row cs 5 1]else False else False else False else R (Exit.exit 0) [some (V.str s),some (V.str []),
 some (V.slice 0 0 k false 0 0),some (V.int IntKind.i64 i)] [Blk.row cs 5 1]):=by kernel_rfl
structure GR where
 s:List UInt8
 i:Nat
def grV(x:GR):List V:=[.str x.s,.str [],.slice 0 0 x.s.length false 0 0,.int .i64 (x.i:Int)]
def grJ(x:GR):St:=[.row (bys (grS x.s x.i)) 5 1]
def grPre(x:GR):Bool:=okL x.s&&Nat.ble x.i x.s.length
def grMu(x:GR):Nat:=x.s.length-x.i
def grDec:List (Option V)→St→Option GR
 |[some (.str s),some (.str []),some (.slice _ 0 _ false 0 0),some (.int .i64 0)],_=>some ⟨s,0⟩
 |_,_=>none
def grFV(s:List UInt8):List V:=bys (grL s)
def grOutG(s:List UInt8)(cs:List V)(K:Exit→List V→St→Prop):Prop:=K (.exit 0) [.str s,.str [],.slice 0 0 s.length false 0 0,.int .i64 (s.length:Int)] [.row cs 5 1]
def grOut:Asks GR:=fun x K=>grOutG x.s (grFV x.s) K
theorem gr_fits(s b:List UInt8)(k:Nat)(i:Int)(r:Nat)(st:St)(hb:st[r]?=some (.row (bys b) 5 1)):Fits 0 [.str s,.str [],.slice 0 0 k false 0 0,.int .i64 i] [.row (bys b) 5 1] [some (.str s),some (.str []),some (.slice r 0 k false 0 0),some (.int .i64 i)] st:=
 ⟨[r],[.str s,.str [],.slice r 0 k false 0 0,.int .i64 i],rfl,rfl,FitsM.of ⟨fb (bys_flat b) hb,trivial⟩,by simp,fun i hi=>by omega⟩
theorem gr_roundOk(x:GR)(hx:grPre x=true):roundW Tryd.prog T3 9 10 (rounds 9) 65 58 [0,2,3,4] (grV x) (grJ x) (RoundOkA 0 grPre grV grJ grMu grOut x):=by
 obtain⟨s,i⟩:=x;unfold grPre at hx;rw[Bool.and_eq_true]at hx;have p1:(s.length:Int)≤99999:=okL_le hx.1;have p2:i≤s.length:=Nat.le_of_ble_eq_true hx.2;show roundW Tryd.prog T3 9 10 (rounds 9) 65 58 [0,2,3,4] [.str s,.str [],.slice 0 0 s.length false 0 0,.int .i64 (i:Int)] [.row (bys (grS s i)) 5 1] _;rw[gr_round];cases hd:s.drop i with
 |nil=>
  have hi:=dropA_nil hd p2;rw[decide_eq_false (show ¬((i:Int)<(s.length:Int)) by omega),cond_false];refine⟨_,_,fun K hK=>?_,gr_fits s (grS s i) s.length i 0 _ rfl⟩;have e:grS s i=grL s:=by unfold grS grL;rw[hd,List.append_nil,hi,List.take_length]
  have hK:grOutG s (bys (grL s)) K:=hK;rw[←e]at hK;unfold grOutG at hK;rw[hi]at hK ⊢;exact hK
 |cons c r=>
  obtain⟨e1,e2,e3⟩:=dropA_cons hd;have hT:((s.take i).map g8).length=i:=by rw[List.length_map,List.length_take];omega
  have eS:grS s i=(s.take i).map g8++c::r:=by unfold grS;rw[hd]
  have eN:grS s (i+1)=(s.take i).map g8++g8 c::r:=by
   unfold grS;have ht:s.take (i+1)=s.take i++[c]:=by
    rw[List.take_add_one,e1];rfl
   rw[e2,ht,List.map_append,List.append_assoc];rfl
  have g0:(bys ((s.take i).map g8++c::r)).getD (0+i*1) (.bool false)=.int .u8 (c.toNat:Int):=by
   rw[show 0+i*1=i by omega,bys_getD (by rw[List.length_append,hT,List.length_cons];omega)];rw[List.getD_eq_getElem?_getD,List.getElem?_append_right (by omega),hT,Nat.sub_self];rfl
  have hlen:(bys ((s.take i).map g8++c::r)).length=s.length:=by
   rw[bys_len,List.length_append,hT];have:=congrArg List.length hd;rw[List.length_drop]at this;omega
  have g1:(0+i*1).blt (bys ((s.take i).map g8++c::r)).length=true:=by rw[hlen];exact Nat.ble_eq_true_of_le (by omega)
  have g2:(0+i*1+1).ble (bys ((s.take i).map g8++c::r)).length=true:=by rw[hlen];exact Nat.ble_eq_true_of_le (by omega)
  have q1:decide ((i:Int)<(s.length:Int))=true:=decide_eq_true (by omega);have q2:decide ((0:Int)≤(i:Int))=true:=decide_eq_true (by omega);have w1:IntKind.i64.wrap ((i:Int)+1)=((i+1:Nat):Int):=by rw[IntWalk.i64_in _ ⟨by omega,by omega⟩];omega
  have gi:isIntV IntKind.u8 (V.int .u8 (c.toNat:Int))=true:=rfl;have gv:intOfV (V.int .u8 (c.toNat:Int))=(c.toNat:Int):=rfl;have hcl:=c.toNat_lt;have next:∀(q:List V),q=bys (grS s (i+1))→RoundOkA 0 grPre grV grJ grMu grOut ⟨s,i⟩ .normal [some (.str s),some (.str []),some (.slice 0 0 s.length false 0 0),some (.int .i64 ((i+1:Nat):Int))] [.row q 5 1]:=fun q hq=>by
   subst hq;refine⟨⟨s,i+1⟩,?_,gr_fits s _ _ _ 0 _ rfl,by simp only[grMu];omega,fun K hK=>hK⟩;unfold grPre;rw[Bool.and_eq_true];exact⟨hx.1,Nat.ble_eq_true_of_le (show i+1≤s.length by omega)⟩
  have same:(Nat.ble 97 c.toNat&&Nat.ble c.toNat 122)=false→g8 c=c:=fun h=>by unfold g8;rw[h];rfl
  rw[eS];simp only[q1,q2,Int.toNat_natCast,cond_true,Bool.true_and,w1,g0,g1,g2,gi,gv];refine bif_intro (fun h1=>?_) (fun h1=>?_)
  ·have h1:=of_decide_eq_true h1;refine bif_intro (fun h2=>?_) (fun h2=>?_)
   ·have h2:=of_decide_eq_true h2;refine next _ ?_
    have et:g8 c=c-32:=by
     unfold g8;rw[Nat.ble_eq_true_of_le (by omega),Nat.ble_eq_true_of_le (by omega)];rfl
    rw[eN,et];refine put_bys hT ?_;rw[IntWalk.u8_in _ ⟨by omega,by omega⟩,UInt8.toNat_sub_of_le _ _ (by show(32:UInt8).toNat≤c.toNat;simp;omega)];simp;omega
   ·have h2:=of_decide_eq_false h2;have n1:Nat.ble c.toNat 122=false:=by cases hb:Nat.ble c.toNat 122 with
     |false=>rfl
     |true=>exact absurd (Nat.le_of_ble_eq_true hb) (by omega)
    exact next _ (by rw[eN,same (by rw[n1,Bool.and_false])])
  ·have h1:=of_decide_eq_false h1;have n0:Nat.ble 97 c.toNat=false:=by cases hb:Nat.ble 97 c.toNat with
    |false=>rfl
    |true=>exact absurd (Nat.le_of_ble_eq_true hb) (by omega)
   exact next _ (by rw[eN,same (by rw[n0,Bool.false_and])])
noncomputable def lkGR:Nat→Trans→Trans:=withLoop 58 (loopA 0 (szOf Tryd.prog 65) [0,2,3,4] grDec grPre grV grJ grOut) (rounds 9)
theorem lkGR_ok:FnLoopsW Tryd.prog 0 lkGR 65:=by
 unfold lkGR;exact fnLoopW (fnRoundsW 9 0 65) (by kernel_rfl) fun f st Q h=>loopA_ok (P:=Tryd.prog) (T:=T3) (k:=0) (lim:=9) (n:=10) (g:=65) (p0:=58) (lk:=rounds 9) mixed T3_ok (roundsW 9 _ _) grMu gr_roundOk h
noncomputable def GRT:Tab:=⟨noT,noL,addLk (noLks 9) 65 0 lkGR⟩
theorem GRT_ok:TabOk3 Tryd.prog GRT:=⟨noT_ok,noL_ok,addLk_ok (noLks_ok 9) lkGR_ok⟩
theorem gr_tree(s:List UInt8)(R:V→Prop):runW Tryd.prog GRT 9 10 65 [.str s] R=
  (
 bif s.length.ble 281474976710656 then Fits 0 [V.str s,V.str [],V.slice 0 0 s.length false 0 0,V.int IntKind.i64 0] [Blk.row (bys (grS s 0)) 5 1] [some (V.str s),some
 (V.str []),some (V.slice 0 0 s.length false 0 0),some (V.int IntKind.i64 0)] [Blk.row (List.map (fun b=>V.int IntKind.u8 (↑b.toNat:Int)) s) 5 1]∧bif grPre {s:=s,i:=0}
 then bif (0+s.length).ble (grFV s).length then bif (List.take s.length (List.drop 0 (grFV s))).all isByte then R (V.str (List.map Vm.byteOf (List.take s.length
 (List.drop 0 (grFV s)))))else False else False else False else False):=by kernel_rfl
def greatT:List V→Option (List (Bool×(V×St)))
 |[.str s]=>some [(okL s,(.str (grL s),[]))]
 |_=>none
theorem great_ok(args:List V)(L:List (Bool×(V×St)))(o:V×St)(h:greatT args=some L)(ho:pickO L=some o):FnSat Tryd.prog 65 args [] (Is o):=by
 unfold greatT at h;split at h
 ·rename_i s;cases h;obtain⟨hk,rfl⟩:=pickO_one ho;have hl:=okL_le hk;refine pureW_of (lim:=9) (n:=10) mixed GRT_ok rfl rfl ?_;rw[gr_tree];have e0:grS s 0=s:=by unfold grS;rw[List.take_zero,List.drop_zero];rfl
  have e1:grFV s=bys (grL s):=rfl;have e2:List.take s.length (List.drop 0 (bys (grL s)))=bys (grL s):=by rw[List.drop_zero,List.take_of_length_le (by rw[bys_len,grL_len];exact Nat.le_refl _)]
  rw[e0,e1,e2,byteOf_bys,isByte_bys,bys_len,grL_len,Nat.zero_add];refine must_intro (Nat.ble_eq_true_of_le (by omega)) ⟨gr_fits s s s.length 0 0 _ rfl,must_intro ?_ (must_intro (Nat.ble_eq_true_of_le (Nat.le_refl _)) (must_intro rfl rfl))⟩;unfold grPre;rw[hk];rfl
 ·cases h
end Go.Proofs.YtmcdajbfomngcaaDoor
namespace Go.Proofs.YtmcdajbfomngcaaDoor
open Go Go.Vm Go.RowKit
set_option linter.unusedVariables false
set_option maxRecDepth 100000
set_option linter.unusedSectionVars false
variable [Φ:Frz]
def greatTG(OL:List UInt8→Bool)(UP:List UInt8→List UInt8):List V→Option (List (Bool×(V×St)))
 |[.str s]=>some [(OL s,(.str (UP s),[]))]
 |_=>none
noncomputable def RL0(OL:List UInt8→Bool)(UP:List UInt8→List UInt8)(NV NE:List UInt8→Int→Int):Tab:=⟨addT (addT noT 65 (greatTG OL UP)) 66 (numTG OL NV NE),noL,noLks 9⟩
theorem RL0_ok:TabOk3 Tryd.prog (RL0 okL grL numV numE):=⟨addT_ok (addT_ok noT_ok great_ok) rnum_ok,noL_ok,noLks_ok 9⟩
theorem rl_tree(OL:List UInt8→Bool)(UP:List UInt8→List UInt8)(NV NE:List UInt8→Int→Int)(a1 a2 a3 a4 a5 a6:Bool)(mo:Int)(s:List UInt8)(R:V→Prop):runW Tryd.prog (RL0 OL UP NV NE) 9 20 40 [.agg [.bool a1,.bool a2,.bool a3,.bool a4,.bool a5,.bool a6,.int .i64 mo],.str s] R=
  (
 bif OL s then bif UP s==[83,84,65,82,84,84,76,83]then bif decide ((↑(UP s).length:Int)<5)then R (V.agg [V.bool true,V.bool a2,V.bool a3,V.bool a4,
 V.bool a5,V.bool a6,V.int IntKind.i64 mo])else bif true&&Nat.ble 5 (UP s).length then bif !List.take 5 (List.drop 0 (UP s))==[83,73,90,69,32]then R (V.agg
 [V.bool true,V.bool a2,V.bool a3,V.bool a4,V.bool a5,V.bool a6,V.int IntKind.i64 mo])else bif Nat.ble 5 (UP s).length&&(UP s).length.ble (UP s).length then bif
 OL (List.take ((UP s).length-5) (List.drop 5 (UP s)))&&true then bif NE (List.take ((UP s).length-5) (List.drop 5 (UP s))) 1099511627776==4 then R (V.agg [V.bool
 true,V.bool a2,V.bool a3,V.bool a4,V.bool a5,V.bool a6,V.int IntKind.i64 mo])else bif mo==0 then R (V.agg [V.bool true,V.bool a2,V.bool a3,V.bool a4,V.bool
 a5,V.bool true,V.int IntKind.i64 (NV (List.take ((UP s).length-5) (List.drop 5 (UP s))) 1099511627776)])else R (V.agg [V.bool true,V.bool a2,V.bool a3,V.bool a4,
 V.bool a5,V.bool true,V.int IntKind.i64 mo])else False else False else False else bif UP s==[80,73,80,69,76,73,78,73,78,71]then bif decide ((↑(UP s).length
 :Int)<5)then R (V.agg [V.bool a1,V.bool true,V.bool a3,V.bool a4,V.bool a5,V.bool a6,V.int IntKind.i64 mo])else bif true&&Nat.ble 5 (UP s).length then bif
 !List.take 5 (List.drop 0 (UP s))==[83,73,90,69,32]then R (V.agg [V.bool a1,V.bool true,V.bool a3,V.bool a4,V.bool a5,V.bool a6,V.int IntKind.i64 mo])else
 bif Nat.ble 5 (UP s).length&&(UP s).length.ble (UP s).length then bif OL (List.take ((UP s).length-5) (List.drop 5 (UP s)))&&true then bif NE (List.take ((UP
 s).length-5) (List.drop 5 (UP s))) 1099511627776==4 then R (V.agg [V.bool a1,V.bool true,V.bool a3,V.bool a4,V.bool a5,V.bool a6,V.int IntKind.i64 mo])else bif
 mo==0 then R (V.agg [V.bool a1,V.bool true,V.bool a3,V.bool a4,V.bool a5,V.bool true,V.int IntKind.i64 (NV (List.take ((UP s).length-5) (List.drop 5 (UP s)))
 1099511627776)])else R (V.agg [V.bool a1,V.bool true,V.bool a3,V.bool a4,V.bool a5,V.bool true,V.int IntKind.i64 mo])else False else False else False else bif UP
 s==[82,69,81,85,73,82,69,84,76,83]then bif decide ((↑(UP s).length:Int)<5)then R (V.agg [V.bool a1,V.bool a2,V.bool true,V.bool a4,V.bool a5,V.bool
 a6,V.int IntKind.i64 mo])else bif true&&Nat.ble 5 (UP s).length then bif !List.take 5 (List.drop 0 (UP s))==[83,73,90,69,32]then R (V.agg [V.bool a1,V.bool
 a2,V.bool true,V.bool a4,V.bool a5,V.bool a6,V.int IntKind.i64 mo])else bif Nat.ble 5 (UP s).length&&(UP s).length.ble (UP s).length then bif OL (List.take ((UP
 s).length-5) (List.drop 5 (UP s)))&&true then bif NE (List.take ((UP s).length-5) (List.drop 5 (UP s))) 1099511627776==4 then R (V.agg [V.bool a1,V.bool a2,
 V.bool true,V.bool a4,V.bool a5,V.bool a6,V.int IntKind.i64 mo])else bif mo==0 then R (V.agg [V.bool a1,V.bool a2,V.bool true,V.bool a4,V.bool a5,V.bool true,
 V.int IntKind.i64 (NV (List.take ((UP s).length-5) (List.drop 5 (UP s))) 1099511627776)])else R (V.agg [V.bool a1,V.bool a2,V.bool true,V.bool a4,V.bool a5,V.bool
 true,V.int IntKind.i64 mo])else False else False else False else bif UP s==[68,83,78]then bif decide ((↑(UP s).length:Int)<5)then R (V.agg [V.bool a1,V.bool
 a2,V.bool a3,V.bool true,V.bool a5,V.bool a6,V.int IntKind.i64 mo])else bif true&&Nat.ble 5 (UP s).length then bif !List.take 5 (List.drop 0 (UP s))==[83,73,
 90,69,32]then R (V.agg [V.bool a1,V.bool a2,V.bool a3,V.bool true,V.bool a5,V.bool a6,V.int IntKind.i64 mo])else bif Nat.ble 5 (UP s).length&&(UP
 s).length.ble (UP s).length then bif OL (List.take ((UP s).length-5) (List.drop 5 (UP s)))&&true then bif NE (List.take ((UP s).length-5) (List.drop 5 (UP s)))
 1099511627776==4 then R (V.agg [V.bool a1,V.bool a2,V.bool a3,V.bool true,V.bool a5,V.bool a6,V.int IntKind.i64 mo])else bif mo==0 then R (V.agg [V.bool a1,
 V.bool a2,V.bool a3,V.bool true,V.bool a5,V.bool true,V.int IntKind.i64 (NV (List.take ((UP s).length-5) (List.drop 5 (UP s))) 1099511627776)])else R (V.agg
 [V.bool a1,V.bool a2,V.bool a3,V.bool true,V.bool a5,V.bool true,V.int IntKind.i64 mo])else False else False else False else bif UP s==[56,66,73,84,77,73,
 77,69]then bif decide ((↑(UP s).length:Int)<5)then R (V.agg [V.bool a1,V.bool a2,V.bool a3,V.bool a4,V.bool true,V.bool a6,V.int IntKind.i64 mo])else bif
 true&&Nat.ble 5 (UP s).length then bif !List.take 5 (List.drop 0 (UP s))==[83,73,90,69,32]then R (V.agg [V.bool a1,V.bool a2,V.bool a3,V.bool a4,V.bool true,
 V.bool a6,V.int IntKind.i64 mo])else bif Nat.ble 5 (UP s).length&&(UP s).length.ble (UP s).length then bif OL (List.take ((UP s).length-5) (List.drop 5 (UP s)))&&
 true then bif NE (List.take ((UP s).length-5) (List.drop 5 (UP s))) 1099511627776==4 then R (V.agg [V.bool a1,V.bool a2,V.bool a3,V.bool a4,V.bool true,V.bool
 a6,V.int IntKind.i64 mo])else bif mo==0 then R (V.agg [V.bool a1,V.bool a2,V.bool a3,V.bool a4,V.bool true,V.bool true,V.int IntKind.i64 (NV (List.take ((UP
 s).length-5) (List.drop 5 (UP s))) 1099511627776)])else R (V.agg [V.bool a1,V.bool a2,V.bool a3,V.bool a4,V.bool true,V.bool true,V.int IntKind.i64 mo])else
 False else False else False else bif UP s==[83,73,90,69]then bif decide ((↑(UP s).length:Int)<5)then R (V.agg [V.bool a1,V.bool a2,V.bool a3,V.bool a4,
 V.bool a5,V.bool true,V.int IntKind.i64 mo])else bif true&&Nat.ble 5 (UP s).length then bif !List.take 5 (List.drop 0 (UP s))==[83,73,90,69,32]then R (V.agg
 [V.bool a1,V.bool a2,V.bool a3,V.bool a4,V.bool a5,V.bool true,V.int IntKind.i64 mo])else bif Nat.ble 5 (UP s).length&&(UP s).length.ble (UP s).length then bif
 OL (List.take ((UP s).length-5) (List.drop 5 (UP s)))&&true then bif NE (List.take ((UP s).length-5) (List.drop 5 (UP s))) 1099511627776==4 then R (V.agg [V.bool
 a1,V.bool a2,V.bool a3,V.bool a4,V.bool a5,V.bool true,V.int IntKind.i64 mo])else bif mo==0 then R (V.agg [V.bool a1,V.bool a2,V.bool a3,V.bool a4,V.bool a5,
 V.bool true,V.int IntKind.i64 (NV (List.take ((UP s).length-5) (List.drop 5 (UP s))) 1099511627776)])else R (V.agg [V.bool a1,V.bool a2,V.bool a3,V.bool a4,V.bool
 a5,V.bool true,V.int IntKind.i64 mo])else False else False else False else bif decide ((↑(UP s).length:Int)<5)then R (V.agg [V.bool a1,V.bool a2,V.bool a3,
 V.bool a4,V.bool a5,V.bool a6,V.int IntKind.i64 mo])else bif true&&Nat.ble 5 (UP s).length then bif !List.take 5 (List.drop 0 (UP s))==[83,73,90,69,32]then R
 (V.agg [V.bool a1,V.bool a2,V.bool a3,V.bool a4,V.bool a5,V.bool a6,V.int IntKind.i64 mo])else bif Nat.ble 5 (UP s).length&&(UP s).length.ble (UP s).length then
 bif OL (List.take ((UP s).length-5) (List.drop 5 (UP s)))&&true then bif NE (List.take ((UP s).length-5) (List.drop 5 (UP s))) 1099511627776==4 then R (V.agg
 [V.bool a1,V.bool a2,V.bool a3,V.bool a4,V.bool a5,V.bool a6,V.int IntKind.i64 mo])else bif mo==0 then R (V.agg [V.bool a1,V.bool a2,V.bool a3,V.bool a4,
 V.bool a5,V.bool true,V.int IntKind.i64 (NV (List.take ((UP s).length-5) (List.drop 5 (UP s))) 1099511627776)])else R (V.agg [V.bool a1,V.bool a2,V.bool a3,V.bool
 a4,V.bool a5,V.bool true,V.int IntKind.i64 mo])else False else False else False else False):=by kernel_rfl
def tailC(u:List UInt8)(c:CP):CP:=bif (u.take 5==wSZ)&&!(numE (u.drop 5) 1099511627776==4)then{c with si:=true,mo:=bif c.mo==0 then numV (u.drop 5) 1099511627776 else c.mo}else c
theorem rl_tail{u:List UInt8}{Q:V→Prop}(hu:u.length≤99999)(b1 b2 b3 b4 b5 b6:Bool)(mo:Int)(hQ:Q (.agg (cpV (tailC u ⟨b1,b2,b3,b4,b5,b6,mo⟩)))):(bif decide ((u.length:Int)<5)then Q (V.agg [V.bool b1,V.bool b2,V.bool b3,V.bool b4,V.bool b5,V.bool b6,V.int IntKind.i64 mo])else bif true&&Nat.ble 5 u.length then bif !List.take 5 (List.drop 0 u)==[83,73,90,69,32]then Q (V.agg [V.bool b1,V.bool b2,V.bool b3,V.bool b4,V.bool b5,V.bool b6,V.int IntKind.i64 mo])else bif Nat.ble 5 u.length&&u.length.ble u.length then bif okL (List.take (u.length-5) (List.drop 5 u))&&true then bif numE (List.take (u.length-5) (List.drop 5 u)) 1099511627776==4 then Q (V.agg [V.bool b1,V.bool b2,V.bool b3,V.bool b4,V.bool b5,V.bool b6,V.int IntKind.i64 mo])else bif mo==0 then Q (V.agg [V.bool b1,V.bool b2,V.bool b3,V.bool b4,V.bool b5,V.bool true,V.int IntKind.i64 (numV (List.take (u.length-5) (List.drop 5 u)) 1099511627776)])else Q (V.agg [V.bool b1,V.bool b2,V.bool b3,V.bool b4,V.bool b5,V.bool true,V.int IntKind.i64 mo])else False else False else False):=by
 have none:(u.take 5==wSZ)=false→Q (V.agg [V.bool b1,V.bool b2,V.bool b3,V.bool b4,V.bool b5,V.bool b6,V.int IntKind.i64 mo]):=fun h=>by
  unfold tailC at hQ;rw[h]at hQ;exact hQ
 refine bif_intro (fun h1=>none ?_) (fun h1=>?_)
 ·have h1:=of_decide_eq_true h1;cases h:(u.take 5==wSZ)with
  |false=>rfl
  |true=>
   have:=congrArg List.length (eq_of_beq h);rw[List.length_take]at this;have e:wSZ.length=5:=rfl;omega
 ·have h1:=of_decide_eq_false h1;have ed:(u.drop 5).take (u.length-5)=u.drop 5:=List.take_of_length_le (by rw[List.length_drop];exact Nat.le_refl _);refine must_intro (by rw[Bool.true_and];exact Nat.ble_eq_true_of_le (by omega)) ?_;rw[ed,List.drop_zero];refine bif_intro (fun h7=>none ?_) (fun h7=>?_)
  ·cases h:(u.take 5==wSZ)with
   |false=>rfl
   |true=>have h:(List.take 5 u==[83,73,90,69,32])=true:=h;rw[h]at h7;cases h7
  ·have h7:(u.take 5==wSZ)=true:=by
    cases h:(u.take 5==wSZ)with
    |true=>rfl
    |false=>have h:(List.take 5 u==[83,73,90,69,32])=false:=h;rw[h]at h7;cases h7
   refine must_intro (by rw[Bool.and_eq_true];exact⟨Nat.ble_eq_true_of_le (by omega),Nat.ble_eq_true_of_le (Nat.le_refl _)⟩) (must_intro (by rw[Bool.and_true];exact decide_eq_true (by rw[List.length_drop];omega)) ?_);unfold tailC at hQ;rw[h7]at hQ;refine bif_intro (fun h8=>?_) (fun h8=>?_)
   ·rw[h8]at hQ;exact hQ
   ·rw[h8]at hQ;refine bif_intro (fun h9=>?_) (fun h9=>?_)
    ·simp only[h9]at hQ;exact hQ
    ·simp only[h9]at hQ;exact hQ
theorem rl_all{u:List UInt8}(OL:List UInt8→Bool)(s:List UInt8)(hs:okL s=true)(hu:(grL s).length≤99999)(a1 a2 a3 a4 a5 a6:Bool)(mo:Int):FnSat Tryd.prog 40 [.agg [.bool a1,.bool a2,.bool a3,.bool a4,.bool a5,.bool a6,.int .i64 mo],.str s] [] (fun v _=>v=.agg (cpV (lineU numV numE (grL s) ⟨a1,a2,a3,a4,a5,a6,mo⟩))):=by
 refine runW_ok (lim:=9) (n:=20) mixed RL0_ok ?_;rw[rl_tree,hs,cond_true];generalize grL s=u at hu ⊢;refine bif_intro (fun h=>rl_tail (Q:=fun v=>v=V.agg (cpV (lineU numV numE u ⟨a1,a2,a3,a4,a5,a6,mo⟩))) hu true a2 a3 a4 a5 a6 mo ?_) (fun h0=>?_)
 ·have hw:u=wST:=eq_of_beq h;have hs:setW u ⟨a1,a2,a3,a4,a5,a6,mo⟩=⟨true,a2,a3,a4,a5,a6,mo⟩:=by
   subst hw;unfold setW;rw[show(wST==wST)=true from rfl,show(wST==wPI)=false from rfl,show(wST==wRQ)=false from rfl,show(wST==wDS)=false from rfl,show(wST==wEB)=false from rfl,show(wST==wSI)=false from rfl];simp only[Bool.or_false,Bool.or_true]
  show _=V.agg (cpV (tailC u (setW u ⟨a1,a2,a3,a4,a5,a6,mo⟩)));rw[hs]
 refine bif_intro (fun h=>rl_tail (Q:=fun v=>v=V.agg (cpV (lineU numV numE u ⟨a1,a2,a3,a4,a5,a6,mo⟩))) hu a1 true a3 a4 a5 a6 mo ?_) (fun h1=>?_)
 ·have hw:u=wPI:=eq_of_beq h;have hs:setW u ⟨a1,a2,a3,a4,a5,a6,mo⟩=⟨a1,true,a3,a4,a5,a6,mo⟩:=by
   subst hw;unfold setW;rw[show(wPI==wST)=false from rfl,show(wPI==wPI)=true from rfl,show(wPI==wRQ)=false from rfl,show(wPI==wDS)=false from rfl,show(wPI==wEB)=false from rfl,show(wPI==wSI)=false from rfl];simp only[Bool.or_false,Bool.or_true]
  show _=V.agg (cpV (tailC u (setW u ⟨a1,a2,a3,a4,a5,a6,mo⟩)));rw[hs]
 refine bif_intro (fun h=>rl_tail (Q:=fun v=>v=V.agg (cpV (lineU numV numE u ⟨a1,a2,a3,a4,a5,a6,mo⟩))) hu a1 a2 true a4 a5 a6 mo ?_) (fun h2=>?_)
 ·have hw:u=wRQ:=eq_of_beq h;have hs:setW u ⟨a1,a2,a3,a4,a5,a6,mo⟩=⟨a1,a2,true,a4,a5,a6,mo⟩:=by
   subst hw;unfold setW;rw[show(wRQ==wST)=false from rfl,show(wRQ==wPI)=false from rfl,show(wRQ==wRQ)=true from rfl,show(wRQ==wDS)=false from rfl,show(wRQ==wEB)=false from rfl,show(wRQ==wSI)=false from rfl];simp only[Bool.or_false,Bool.or_true]
  show _=V.agg (cpV (tailC u (setW u ⟨a1,a2,a3,a4,a5,a6,mo⟩)));rw[hs]
 refine bif_intro (fun h=>rl_tail (Q:=fun v=>v=V.agg (cpV (lineU numV numE u ⟨a1,a2,a3,a4,a5,a6,mo⟩))) hu a1 a2 a3 true a5 a6 mo ?_) (fun h3=>?_)
 ·have hw:u=wDS:=eq_of_beq h;have hs:setW u ⟨a1,a2,a3,a4,a5,a6,mo⟩=⟨a1,a2,a3,true,a5,a6,mo⟩:=by
   subst hw;unfold setW;rw[show(wDS==wST)=false from rfl,show(wDS==wPI)=false from rfl,show(wDS==wRQ)=false from rfl,show(wDS==wDS)=true from rfl,show(wDS==wEB)=false from rfl,show(wDS==wSI)=false from rfl];simp only[Bool.or_false,Bool.or_true]
  show _=V.agg (cpV (tailC u (setW u ⟨a1,a2,a3,a4,a5,a6,mo⟩)));rw[hs]
 refine bif_intro (fun h=>rl_tail (Q:=fun v=>v=V.agg (cpV (lineU numV numE u ⟨a1,a2,a3,a4,a5,a6,mo⟩))) hu a1 a2 a3 a4 true a6 mo ?_) (fun h4=>?_)
 ·have hw:u=wEB:=eq_of_beq h;have hs:setW u ⟨a1,a2,a3,a4,a5,a6,mo⟩=⟨a1,a2,a3,a4,true,a6,mo⟩:=by
   subst hw;unfold setW;rw[show(wEB==wST)=false from rfl,show(wEB==wPI)=false from rfl,show(wEB==wRQ)=false from rfl,show(wEB==wDS)=false from rfl,show(wEB==wEB)=true from rfl,show(wEB==wSI)=false from rfl];simp only[Bool.or_false,Bool.or_true]
  show _=V.agg (cpV (tailC u (setW u ⟨a1,a2,a3,a4,a5,a6,mo⟩)));rw[hs]
 refine bif_intro (fun h=>rl_tail (Q:=fun v=>v=V.agg (cpV (lineU numV numE u ⟨a1,a2,a3,a4,a5,a6,mo⟩))) hu a1 a2 a3 a4 a5 true mo ?_) (fun h5=>?_)
 ·have hw:u=wSI:=eq_of_beq h;have hs:setW u ⟨a1,a2,a3,a4,a5,a6,mo⟩=⟨a1,a2,a3,a4,a5,true,mo⟩:=by
   subst hw;unfold setW;rw[show(wSI==wST)=false from rfl,show(wSI==wPI)=false from rfl,show(wSI==wRQ)=false from rfl,show(wSI==wDS)=false from rfl,show(wSI==wEB)=false from rfl,show(wSI==wSI)=true from rfl];simp only[Bool.or_false,Bool.or_true]
  show _=V.agg (cpV (tailC u (setW u ⟨a1,a2,a3,a4,a5,a6,mo⟩)));rw[hs]
 refine rl_tail (Q:=fun v=>v=V.agg (cpV (lineU numV numE u ⟨a1,a2,a3,a4,a5,a6,mo⟩))) hu a1 a2 a3 a4 a5 a6 mo ?_;show _=V.agg (cpV (tailC u (setW u ⟨a1,a2,a3,a4,a5,a6,mo⟩)));rw[set_not h0 h1 h2 h3 h4 h5]
def rlineT:List V→Option (List (Bool×(V×St)))
 |[.agg [.bool a1,.bool a2,.bool a3,.bool a4,.bool a5,.bool a6,.int .i64 mo],.str s]=>some [(okL s,(.agg (cpV (lineU numV numE (grL s) ⟨a1,a2,a3,a4,a5,a6,mo⟩)),[]))]
 |_=>none
theorem rline_ok(args:List V)(L:List (Bool×(V×St)))(o:V×St)(h:rlineT args=some L)(ho:pickO L=some o):FnSat Tryd.prog 40 args [] (Is o):=by
 unfold rlineT at h;split at h
 ·rename_i a1 a2 a3 a4 a5 a6 mo s;cases h;obtain⟨hk,rfl⟩:=pickO_one ho;have hl:=okL_le hk;refine FnSat.flatK rfl ((rl_all (u:=[]) (fun _=>true) s hk (by rw[grL_len];omega) a1 a2 a3 a4 a5 a6 mo).mono ?_);rintro u q rfl;rfl
 ·cases h
theorem num_up(t:List UInt8)(m:Int):numV (up t) m=numV (grL t) m∧numE (up t) m=numE (grL t) m:=by
 obtain⟨h1,h2⟩:=up_digs (p:=isD) (fun b hb=>by have:=(isD_iff _).1 hb;omega) t;cases ha:(up t).all isD with
 |true=>rw[h2 ha];exact⟨rfl,rfl⟩
 |false=>
  have hb:(t.map g8).all isD=false:=by rw[←h1];exact ha
  have no:∀q:List UInt8,q.all isD=false→okNum q=false:=fun q hq=>by
   unfold okNum;rw[hq];simp
  obtain⟨x1,x2⟩:=num_none (most:=m) (no _ ha);obtain⟨y1,y2⟩:=num_none (most:=m) (no _ hb);rw[x1,x2];exact⟨y1.symm,y2.symm⟩
theorem line_up(s:List UInt8)(c:CP):lineU numV numE (grL s) c=lineU numV numE (up s) c:=by
 have asc:∀w:List UInt8,w.all (fun b=>decide (b.toNat<128))=true→∀b∈w,b.toNat<128:=fun w hw b hb=>of_decide_eq_true (List.all_eq_true.1 hw b hb);have e:∀w:List UInt8,w.all (fun b=>decide (b.toNat<128))=true→(grL s==w)=(up s==w):=fun w hw=>(up_eq (asc w hw) s).symm;have hset:setW (grL s) c=setW (up s) c:=by
  unfold setW;rw[e wST rfl,e wPI rfl,e wRQ rfl,e wDS rfl,e wEB rfl,e wSI rfl]
 obtain⟨h1,h2⟩:=up_pre wSZ (asc wSZ rfl) s;have h1:((up s).take 5==wSZ)=((grL s).take 5==wSZ):=h1;have h2:((up s).take 5==wSZ)=true→(up s).drop 5=up (s.drop 5):=h2;have h3:(grL s).drop 5=grL (s.drop 5):=by unfold grL;rw[List.map_drop]
 unfold lineU;rw[hset,←h1];cases hc:((up s).take 5==wSZ)with
 |false=>rfl
 |true=>
  rw[h2 hc,h3];obtain⟨n1,n2⟩:=num_up (s.drop 5) 1099511627776;rw[n1,n2]
def rlineTG(OL:List UInt8→Bool)(LC:List UInt8→CP→CP):List V→Option (List (Bool×(V×St)))
 |[.agg [.bool a1,.bool a2,.bool a3,.bool a4,.bool a5,.bool a6,.int .i64 mo],.str s]=>some [(OL s,(.agg (cpV (LC s ⟨a1,a2,a3,a4,a5,a6,mo⟩)),[]))]
 |_=>none
def lineG(s:List UInt8)(c:CP):CP:=lineU numV numE (grL s) c
noncomputable def RO0(OL:List UInt8→Bool)(LC:List UInt8→CP→CP):Tab:=⟨addT noT 40 (rlineTG OL LC),noL,noLks 9⟩
theorem RO0_ok:TabOk3 Tryd.prog (RO0 okL lineG):=⟨addT_ok noT_ok rline_ok,noL_ok,noLks_ok 9⟩
theorem ro_round(OL:List UInt8→Bool)(LC:List UInt8→CP→CP)(a1 a2 a3 a4 a5 a6:Bool)(mo co:Int)(en:List UInt8)(y:Value)(m:Nat)(ds:List V)(i:Int)(R:Exit→List (Option V)→St→Prop):roundW Tryd.prog (RO0 OL LC) 9 20 (rounds 9) 23 58 [1,2,3,4] [.ptr 0 0,.ptr 1 0,.ptr 2 0,.int .i64 i] [.row [.int .i64 co,.str en,.lst y m ds] 43 3,.row [.bool false,.bool false,.bool false,.bool false,.bool false,.bool false,.int .i64 0] 41 7,.row [.bool a1,.bool a2,.bool a3,.bool a4,.bool a5,.bool a6,.int .i64 mo] 41 7] R=
  (
 bif decide (i<(↑m:Int))then bif co==250 then bif decide (0≤i)&&decide (i<(↑m:Int))then bif (i.toNat*1).blt ds.length then bif isStrV (ds.getD (i.toNat*
 1) (V.bool false))then bif OL (strOfV (ds.getD (i.toNat*1) (V.bool false)))then R Exit.normal [some (V.ptr 0 0),some (V.ptr 1 0),some (V.ptr 2 0),some (V.int
 IntKind.i64 (IntKind.i64.wrap (i+1)))] [Blk.row [V.int IntKind.i64 co,V.str en,V.lst y m ds] 43 3,Blk.row [V.bool false,V.bool false,V.bool false,V.bool false,
 V.bool false,V.bool false,V.int IntKind.i64 0] 41 7,Blk.row [V.bool (LC (strOfV (ds.getD (i.toNat*1) (V.bool false))) {st:=a1,pi:=a2,rq:=a3,ds:=a4,eb:=a5,si:=a6,mo:=mo}).st,
 V.bool (LC (strOfV (ds.getD (i.toNat*1) (V.bool false))) {st:=a1,pi:=a2,rq:=a3,ds:=a4,eb:=a5,si:=a6,mo:=mo}).pi,V.bool (LC (strOfV (ds.getD
 (i.toNat*1) (V.bool false))) {st:=a1,pi:=a2,rq:=a3,ds:=a4,eb:=a5,si:=a6,mo:=mo}).rq,V.bool (LC (strOfV (ds.getD (i.toNat*1) (V.bool false))) {st:=a1,pi:=a2,rq:=a3,ds:=a4,eb:=a5,si:=a6,mo:=mo}).ds,
 V.bool (LC (strOfV (ds.getD (i.toNat*1) (V.bool false))) {st:=a1,pi:=a2,rq:=a3,ds:=a4,eb:=a5,si:=a6,mo:=mo}).eb,V.bool (LC (strOfV (ds.getD
 (i.toNat*1) (V.bool false))) {st:=a1,pi:=a2,rq:=a3,ds:=a4,eb:=a5,si:=a6,mo:=mo}).si,V.int IntKind.i64 (LC (strOfV (ds.getD (i.toNat*1) (V.bool
 false))) {st:=a1,pi:=a2,rq:=a3,ds:=a4,eb:=a5,si:=a6,mo:=mo}).mo] 41 7]else False else False else False else False else R (Exit.exit 0) [some (V.ptr
 0 0),some (V.ptr 1 0),some (V.ptr 2 0),some (V.int IntKind.i64 i)] [Blk.row [V.int IntKind.i64 co,V.str en,V.lst y m ds] 43 3,Blk.row [V.bool false,V.bool false,
 V.bool false,V.bool false,V.bool false,V.bool false,V.int IntKind.i64 0] 41 7,Blk.row [V.bool a1,V.bool a2,V.bool a3,V.bool a4,V.bool a5,V.bool a6,V.int
 IntKind.i64 mo] 41 7]else R (Exit.exit 0) [some (V.ptr 0 0),some (V.ptr 1 0),some (V.ptr 2 0),some (V.int IntKind.i64 i)] [Blk.row [V.int IntKind.i64 co,V.str en,
 V.lst y m ds] 43 3,Blk.row [V.bool false,V.bool false,V.bool false,V.bool false,V.bool false,V.bool false,V.int IntKind.i64 0] 41 7,Blk.row [V.bool a1,V.bool a2,
 V.bool a3,V.bool a4,V.bool a5,V.bool a6,V.int IntKind.i64 mo] 41 7]):=by kernel_rfl
structure RO where
 co:Int
 en:List UInt8
 y:Value
 m:Nat
 ds:List V
 c:CP
 i:Nat
def roMem(co:Int)(en:List UInt8)(y:Value)(m:Nat)(ds:List V)(c:CP):St:=[.row [.int .i64 co,.str en,.lst y m ds] 43 3,.row [.bool false,.bool false,.bool false,.bool false,.bool false,.bool false,.int .i64 0] 41 7,.row (cpV c) 41 7]
def roV(x:RO):List V:=[.ptr 0 0,.ptr 1 0,.ptr 2 0,.int .i64 (x.i:Int)]
def roJ(x:RO):St:=roMem x.co x.en x.y x.m x.ds x.c
def roPre(x:RO):Bool:=okS x.m x.ds&&(x.ds.map strOfV).all shortS
def roMu(x:RO):Nat:=x.m-x.i
def roDec:List (Option V)→St→Option RO
 |[some (.ptr k 0),some (.ptr _ 0),some (.ptr b 0),some (.int .i64 1)],st=>match st[k]?,st[b]? with
  |some (.row [.int .i64 co,.str en,.lst y m ds] _ _),some (.row c _ _)=>some ⟨co,en,y,m,ds,cpOf c,1⟩
  |_,_=>none
 |_,_=>none
def roF(co:Int)(ds:List V)(i:Nat)(c:CP):CP:=bif co==250 then linesU numV numE ((ds.map strOfV).drop i) c else c
def roOutG(co:Int)(en:List UInt8)(y:Value)(m:Nat)(ds:List V)(c:CP)(K:Exit→List V→St→Prop):Prop:=
 ∀j:Int,K (.exit 0) [.ptr 0 0,.ptr 1 0,.ptr 2 0,.int .i64 j] (roMem co en y m ds c)
def roOut:Asks RO:=fun x K=>roOutG x.co x.en x.y x.m x.ds (roF x.co x.ds x.i x.c) K
theorem ro_fits(co:Int)(en:List UInt8)(y:Value)(m:Nat)(ds:List V)(c:CP)(i:Int):Fits 0 [.ptr 0 0,.ptr 1 0,.ptr 2 0,.int .i64 i] (roMem co en y m ds c) [some (.ptr 0 0),some (.ptr 1 0),some (.ptr 2 0),some (.int .i64 i)] (roMem co en y m ds c):=
 ⟨[0,1,2],[.ptr 0 0,.ptr 1 0,.ptr 2 0,.int .i64 i],rfl,rfl,FitsM.of ⟨fb rfl rfl,fb rfl rfl,fb (cpV_flat c) rfl,trivial⟩,by decide,fun i hi=>by omega⟩
theorem ro_roundOk(x:RO)(hx:roPre x=true):roundW Tryd.prog (RO0 okL lineG) 9 20 (rounds 9) 23 58 [1,2,3,4] (roV x) (roJ x) (RoundOkA 0 roPre roV roJ roMu roOut x):=by
 obtain⟨co,en,y,m,ds,⟨a1,a2,a3,a4,a5,a6,mo⟩,i⟩:=x;unfold roPre at hx;simp only[Bool.and_eq_true]at hx;have hx1:okS m ds=true:=hx.1;have p4:(ds.map strOfV).all shortS=true:=hx.2;obtain⟨l,rfl,rfl,p2,p3⟩:=okS_spec hx1;rw[strs_strOf]at p4;show roundW Tryd.prog (RO0 okL lineG) 9 20 (rounds 9) 23 58 [1,2,3,4] [.ptr 0 0,.ptr 1 0,.ptr 2 0,.int .i64 (i:Int)] [.row [.int .i64 co,.str en,.lst y l.length (strs l)] 43 3,.row [.bool false,.bool false,.bool false,.bool false,.bool false,.bool false,.int .i64 0] 41 7,.row [.bool a1,.bool a2,.bool a3,.bool a4,.bool a5,.bool a6,.int .i64 mo] 41 7] _;rw[ro_round];have stop:(co==250)=false∨l.drop i=[]→RoundOkA 0 roPre roV roJ roMu roOut ⟨co,en,y,l.length,strs l,⟨a1,a2,a3,a4,a5,a6,mo⟩,i⟩ (.exit 0) [some (.ptr 0 0),some (.ptr 1 0),some (.ptr 2 0),some (.int .i64 (i:Int))] (roMem co en y l.length (strs l) ⟨a1,a2,a3,a4,a5,a6,mo⟩):=fun h=>by
  refine⟨_,_,fun K hK=>?_,ro_fits co en y l.length (strs l) ⟨a1,a2,a3,a4,a5,a6,mo⟩ i⟩;have hK:roOutG co en y l.length (strs l) (roF co (strs l) i ⟨a1,a2,a3,a4,a5,a6,mo⟩) K:=hK;have e:roF co (strs l) i ⟨a1,a2,a3,a4,a5,a6,mo⟩=⟨a1,a2,a3,a4,a5,a6,mo⟩:=by
   unfold roF;rcases h with h|h
   ·rw[h];rfl
   ·rw[strs_strOf,h];cases co==250<;>rfl
  rw[e]at hK;exact hK i
 refine bif_intro (fun h0=>?_) (fun h0=>stop (.inr ?_))
 ·have hi:i<l.length:=by have:=of_decide_eq_true h0;omega
  refine bif_intro (fun hc=>?_) (fun hc=>stop (.inl hc));cases hd:l.drop i with
  |nil=>have:=congrArg List.length hd;rw[List.length_drop]at this;simp at this;omega
  |cons s r=>
   obtain⟨e1,e2,e3⟩:=dropA_cons hd;obtain⟨e4,e5⟩:=strs_at hd;have hs:s.length≤30000:=Nat.le_of_ble_eq_true (List.all_eq_true.1 p4 s (List.mem_of_mem_drop (by rw[hd];simp)));have hk:okL s=true:=decide_eq_true (by omega);have q2:decide ((0:Int)≤(i:Int))=true:=decide_eq_true (by omega);have w1:IntKind.i64.wrap ((i:Int)+1)=((i+1:Nat):Int):=by rw[IntWalk.i64_in _ ⟨by omega,by omega⟩];omega
   have q3:decide ((i:Int)<(l.length:Int))=true:=decide_eq_true (by omega);simp only[q2,q3,Int.toNat_natCast,e4,e5,isStrV,strOfV,hk,cond_true,Bool.and_true,Bool.true_and,w1];refine⟨⟨co,en,y,l.length,strs l,lineG s ⟨a1,a2,a3,a4,a5,a6,mo⟩,i+1⟩,?_,ro_fits co en y l.length (strs l) _ _,by simp only[roMu];omega,fun K hK=>?_⟩
   ·unfold roPre;simp only[Bool.and_eq_true];exact⟨hx1,by rw[strs_strOf];exact p4⟩
   ·have hK:roOutG co en y l.length (strs l) (roF co (strs l) i ⟨a1,a2,a3,a4,a5,a6,mo⟩) K:=hK;have e:roF co (strs l) i ⟨a1,a2,a3,a4,a5,a6,mo⟩=roF co (strs l) (i+1) (lineG s ⟨a1,a2,a3,a4,a5,a6,mo⟩):=by
     unfold roF lineG;rw[hc,cond_true,cond_true,strs_strOf,hd,linesU,line_up,e2]
    rw[e]at hK;exact hK
 ·have h0:=of_decide_eq_false h0;exact List.drop_of_length_le (by omega)
noncomputable def lkRO:Nat→Trans→Trans:=withLoop 58 (loopA 0 (szOf Tryd.prog 23) [1,2,3,4] roDec roPre roV roJ roOut) (rounds 9)
theorem lkRO_ok:FnLoopsW Tryd.prog 0 lkRO 23:=by
 unfold lkRO;exact fnLoopW (fnRoundsW 9 0 23) (by kernel_rfl) fun f st Q h=>loopA_ok (P:=Tryd.prog) (T:=RO0 okL lineG) (k:=0) (lim:=9) (n:=20) (g:=23) (p0:=58) (lk:=rounds 9) mixed RO0_ok (roundsW 9 _ _) roMu ro_roundOk h
noncomputable def ROT:Tab:=⟨noT,noL,addLk (noLks 9) 23 0 lkRO⟩
theorem ROT_ok:TabOk3 Tryd.prog ROT:=⟨noT_ok,noL_ok,addLk_ok (noLks_ok 9) lkRO_ok⟩
theorem ro_tree(co:Int)(en:List UInt8)(x:Value)(n:Nat)(cs:List V)(R:V→Prop):runW Tryd.prog ROT 9 20 23 [.agg [.int .i64 co,.str en,.lst x n cs]] R=
  (
 Fits 0 [V.ptr 0 0,V.ptr 1 0,V.ptr 2 0,V.int IntKind.i64 1] [Blk.row [V.int IntKind.i64 co,V.str en,V.lst x n cs] 43 3,Blk.row [V.bool false,V.bool false,V.bool
 false,V.bool false,V.bool false,V.bool false,V.int IntKind.i64 0] 41 7,Blk.row [V.bool false,V.bool false,V.bool false,V.bool false,V.bool false,V.bool false,
 V.int IntKind.i64 0] 41 7] [some (V.ptr 0 0),some (V.ptr 1 0),some (V.ptr 2 0),some (V.int IntKind.i64 1)] [Blk.row [V.int IntKind.i64 co,V.str en,V.lst x n cs] 43
 3,Blk.row [V.bool false,V.bool false,V.bool false,V.bool false,V.bool false,V.bool false,V.int IntKind.i64 0] 41 7,Blk.row [V.bool false,V.bool false,V.bool
 false,V.bool false,V.bool false,V.bool false,V.int IntKind.i64 0] 41 7]∧bif roPre {co:=co,en:=en,y:=x,m:=n,ds:=cs,c:={st:=false,pi:=false,rq:=false,ds:=false,eb:=false,si:=false,mo:=0},i:=1}
 then ∀(j:Int),R (V.agg [V.bool (roF co cs 1 {st:=false,pi:=false,rq:=false,ds:=false,eb:=false,si:=false,mo:=0}).st,V.bool (roF co cs 1 {st:=false,pi:=false,rq:=false,ds:=false,eb:=false,si:=false,mo:=0}).pi,
 V.bool (roF co cs 1 {st:=false,pi:=false,rq:=false,ds:=false,eb:=false,si:=false,mo:=0}).rq,V.bool (roF co cs 1 {st:=false,pi:=false,rq:=false,ds:=false,eb:=false,si:=false,mo:=0}).ds,
 V.bool (roF co cs 1 {st:=false,pi:=false,rq:=false,ds:=false,eb:=false,si:=false,mo:=0}).eb,V.bool (roF co cs 1 {st:=false,pi:=false,rq:=false,ds:=false,eb:=false,si:=false,mo:=0}).si,
 V.int IntKind.i64 (roF co cs 1 {st:=false,pi:=false,rq:=false,ds:=false,eb:=false,si:=false,mo:=0}).mo])else False):=by kernel_rfl
def rofT:List V→Option (List (Bool×(V×St)))
 |[.agg [.int .i64 co,.str en,.lst x n cs]]=>some [(okS n cs&&(cs.map strOfV).all shortS,(.agg (cpV (ofC co (cs.map strOfV))),[]))]
 |_=>none
theorem rof_ok(args:List V)(L:List (Bool×(V×St)))(o:V×St)(h:rofT args=some L)(ho:pickO L=some o):FnSat Tryd.prog 23 args [] (Is o):=by
 unfold rofT at h;split at h
 ·rename_i co en x n cs;cases h;obtain⟨hk,rfl⟩:=pickO_one ho;refine pureW_of (lim:=9) (n:=20) mixed ROT_ok rfl rfl ?_;rw[ro_tree];exact⟨ro_fits co en x n cs cp0 1,must_intro hk (fun j=>rfl)⟩
 ·cases h
end Go.Proofs.YtmcdajbfomngcaaDoor
