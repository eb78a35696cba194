/- Parts of this work: what the functions come to. -/
import Derived.Test.YtmcdajbfomngcaaDoorVmc
import Derived.Test.YtmcdajbfomngcaaDoorVmd
import Derived.Test.YtmcdajbfomngcaaDoorRows
import Derived.KernelRfl
import Derived.IntWalk
import Derived.Lib.ItoaNum
import Derived.Lib.AtoiAll
import Derived.Lib.AtoiErrMem
import Derived.Shelf.Strconv.AtoiAll
import Derived.Test.YtmcdajbfomngcaaDoorProg
import Derived.Lib.LaidTab
import Derived.Lib.AppendIntMem
import Derived.Shelf.Strconv.Itoa3
import Derived.Lib.MapLaws
import Derived.Lib.TrimAscii
import Derived.ProofKit
import Derived.WalkKit
import Derived.Shelf.Strings.MapAny
namespace Go.Proofs.YtmcdajbfomngcaaDoor
open Go Go.Vm Go.RowKit
set_option linter.unusedVariables false
set_option linter.unusedSectionVars false
variable [Φ:Frz]
theorem mixed:Tryd.prog.follows .mixedOrders=true:=by kernel_rfl
def powC:List V:=[.int .u64 1,.int .u64 10,.int .u64 100,.int .u64 1000,.int .u64 10000,.int .u64 100000,.int .u64 1000000,.int .u64 10000000,.int .u64 100000000,.int .u64 1000000000,.int .u64 10000000000,.int .u64 100000000000,.int .u64 1000000000000,.int .u64 10000000000000,.int .u64 100000000000000,.int .u64 1000000000000000,.int .u64 10000000000000000,.int .u64 100000000000000000,.int .u64 1000000000000000000,.int .u64 10000000000000000000]
instance gl:Glob:={n:=9,cells:=fun|2=>some firstC|3=>some accC|6=>some powC|_=>none,more:=fun _=>(0,0),full:=fun|6=>true|_=>false,ifc:=fun|5=>true|_=>false}
end Go.Proofs.YtmcdajbfomngcaaDoor
namespace Go.Proofs.YtmcdajbfomngcaaDoor
open Go Go.Vm Go.RowKit
set_option linter.unusedVariables false
set_option maxRecDepth 100000
set_option linter.unusedSectionVars false
variable [Φ:Frz]
noncomputable def T3:Tab:=⟨noT,noL,noLks 9⟩
theorem T3_ok:TabOk3 Tryd.prog T3:=⟨noT_ok,noL_ok,noLks_ok 9⟩
def okL(s:List UInt8):Bool:=decide ((s.length:Int)≤99999)
theorem okL_le{s:List UInt8}(h:okL s=true):(s.length:Int)≤99999:=of_decide_eq_true h
noncomputable def lookT(g:Nat)(lk:Nat→Trans→Trans)(args:List V)(st:St)(R:V→St→Prop):Prop:=fnK Tryd.prog (cqT Tryd.prog T3 9 10) (KG Tryd.prog T3 9 10) lk g args st R
theorem lookT_ok{g:Nat}{lk:Nat→Trans→Trans}{args:List V}{st:St}{R:V→St→Prop}(hl:FnLoopsW Tryd.prog st.length lk g)(h:lookT g lk args st R):FnSat Tryd.prog g args st R:=
 fnKW_ok mixed (cqT_ok mixed T3_ok 9 10) (KG_ok mixed T3_ok 10) hl h
end Go.Proofs.YtmcdajbfomngcaaDoor
namespace Go.Vm
open Go.RowKit
set_option linter.unusedSectionVars false
variable [Φ:Frz]
def bys(l:List UInt8):List V:=l.map fun b=>.int .u8 (b.toNat:Int)
theorem bys_len(l:List UInt8):(bys l).length=l.length:=by unfold bys;rw[List.length_map]
theorem bys_append(l r:List UInt8):bys (l++r)=bys l++bys r:=by unfold bys;rw[List.map_append]
theorem bys_flat:∀l:List UInt8,flatL (bys l)=true
 |[]=>rfl
 |c::r=>by
  have ih:=bys_flat r;unfold bys at ih ⊢;rw[List.map_cons,flatL,ih];rfl
theorem bys_getD{l:List UInt8}{i:Nat}(h:i<l.length):(bys l).getD i (.bool false)=.int .u8 ((l.getD i 0).toNat:Int):=by
 rw[List.getD_eq_getElem?_getD,List.getD_eq_getElem?_getD,List.getElem?_eq_getElem h];unfold bys;rw[List.getElem?_map,List.getElem?_eq_getElem h];rfl
theorem byteOf_bys(l:List UInt8):(bys l).map byteOf=l:=by
 unfold bys;rw[List.map_map]
 conv=>rhs;rw[←List.map_id l]
 apply List.map_congr_left;intro b _;show byteOf (.int .u8 (b.toNat:Int))=b;unfold byteOf;simp
theorem isByte_bys(l:List UInt8):(bys l).all isByte=true:=by
 unfold bys;rw[List.all_map,List.all_eq_true];intro b _;rfl
theorem fb{σ:List Nat}{st:St}{c:Nat}{cs:List V}{t:TypeId}{sz:Nat}(h:flatL cs=true)(hc:st[c]?=some (.row cs t sz)):Blk.row cs t sz=.dead∨∃b',FitB σ (.row cs t sz) b'∧st[c]?=some b':=
 .inr ⟨.row cs t sz,.inl (by simp only[renB,renL_of_flat _ h]),hc⟩
end Go.Vm
namespace Go.Vm
open Go.RowKit
set_option linter.unusedSectionVars false
variable [Φ:Frz]
theorem drop_nil{s:List UInt8}{i:Nat}(h:s.drop i=[])(hi:i≤s.length):i=s.length:=by
 have:(s.drop i).length=0:=by rw[h];rfl
 rw[List.length_drop]at this;omega
end Go.Vm
namespace Go.Vm
open Go.Lib
def isD(b:UInt8):Bool:=Nat.ble 48 b.toNat&&Nat.ble b.toNat 57
theorem isD_iff(b:UInt8):isD b=true↔48≤b.toNat∧b.toNat≤57:=by
 unfold isD;rw[Bool.and_eq_true];exact⟨fun h=>⟨Nat.le_of_ble_eq_true h.1,Nat.le_of_ble_eq_true h.2⟩,fun h=>⟨Nat.ble_eq_true_of_le h.1,Nat.ble_eq_true_of_le h.2⟩⟩
def digV(b:UInt8):Nat:=b.toNat-48
def stepD(a:Nat)(c:UInt8):Nat:=a*10+digV c
def numF(acc:Nat)(l:List UInt8):Nat:=l.foldl stepD acc
theorem numF_nil(acc:Nat):numF acc []=acc:=by unfold numF;exact List.foldl_nil ..
theorem numF_cons(acc:Nat)(c:UInt8)(r:List UInt8):numF acc (c::r)=numF (stepD acc c) r:=by unfold numF;exact List.foldl_cons ..
theorem numF_le:∀(l:List UInt8) (acc:Nat),acc≤numF acc l
 |[],acc=>by rw[numF_nil];exact Nat.le_refl _
 |c::r,acc=>by
  have:=numF_le r (stepD acc c);have e:stepD acc c=acc*10+digV c:=rfl;rw[numF_cons];omega
theorem parse_dig:∀(l:List UInt8) (acc:Nat),l.all isD=true→acc<18446744073709551616→parseUint10 acc l=if numF acc l<18446744073709551616 then .ok (numF acc l)else .range
 |[],acc,_,h=>by rw[numF_nil,if_pos h];rfl
 |c::r,acc,hd,h=>by
  simp only[List.all_cons,Bool.and_eq_true]at hd;have hc:=(isD_iff c).1 hd.1;rw[numF_cons];simp only[parseUint10];rw[if_pos hc];have hle:=numF_le r (stepD acc c);have hdv:stepD acc c=acc*10+(c.toNat-48):=rfl;by_cases h1:1844674407370955162≤acc
  ·rw[if_pos h1,if_neg (by omega)]
  ·rw[if_neg h1];by_cases h2:18446744073709551616≤acc*10+(c.toNat-48)
   ·rw[if_pos h2,if_neg (by omega)]
   ·rw[if_neg h2];rw[hdv];exact parse_dig r _ hd.2 (by omega)
theorem atoi_dig{s:List UInt8}(hs:s≠[])(hd:s.all isD=true):atoiAll s=if numF 0 s<9223372036854775808 then .ok (numF 0 s:Int)else .range:=by
 cases s with
 |nil=>exact absurd rfl hs
 |cons c r=>
  have hc:=(isD_iff c).1 (by simp only[List.all_cons,Bool.and_eq_true]at hd;exact hd.1);have h1:¬(c.toNat=43∨c.toNat=45):=by omega
  have h2:¬c.toNat=45:=by omega
  unfold atoiAll;simp only[if_neg h1,parseMag,if_neg hs,parse_dig (c::r) 0 hd (by omega)];by_cases h3:numF 0 (c::r)<18446744073709551616
  ·rw[if_pos h3];simp only[h2,not_false_eq_true,true_and,false_and,if_false];by_cases h4:numF 0 (c::r)<9223372036854775808
   ·rw[if_neg (by omega),if_pos h4]
   ·rw[if_pos (by omega),if_neg h4]
  ·rw[if_neg h3,if_neg (by omega)]
def trimL(p:UInt8→Bool):List UInt8→List UInt8
 |[]=>[]
 |c::r=>bif p c then trimL p r else c::r
def trimR(p:UInt8→Bool)(s:List UInt8):List UInt8:=(trimL p s.reverse).reverse
theorem trimL_nil{p:UInt8→Bool}:∀{s:List UInt8},trimL p s=[]↔s.all p=true
 |[]=>by simp[trimL]
 |c::r=>by
  cases h:p c with
  |true=>simp[trimL,h,trimL_nil (s:=r)]
  |false=>simp[trimL,h]
theorem trimL_all{p:UInt8→Bool}:∀{s:List UInt8},(trimL p s).all p=s.all p
 |[]=>by simp[trimL]
 |c::r=>by
  cases h:p c with
  |true=>simp[trimL,h,trimL_all (s:=r)]
  |false=>simp[trimL,h]
theorem trimR_all{p:UInt8→Bool}{s:List UInt8}:(trimR p s).all p=s.all p:=by
 unfold trimR;rw[List.all_reverse,trimL_all,List.all_reverse]
theorem trim_nil{p:UInt8→Bool}{s:List UInt8}:trimL p (trimR p s)=[]↔s.all p=true:=by rw[trimL_nil,trimR_all]
theorem trimR_snoc{p:UInt8→Bool}{s:List UInt8}(h:s≠[]):trimR p s=bif p (s.getD (s.length-1) 0)then trimR p (s.take (s.length-1))else s:=by
 have e:s=s.take (s.length-1)++[s.getD (s.length-1) 0]:=by
  have hl:0<s.length:=List.length_pos_iff.2 h;rw[List.getD_eq_getElem?_getD,List.getElem?_eq_getElem (by omega:s.length-1<s.length),Option.getD_some];rw[List.take_append_getElem (by omega),Nat.sub_add_cancel hl,List.take_length]
 cases hp:p (s.getD (s.length-1) 0)with
 |true=>
  rw[cond_true]
  conv=>lhs;rw[e]
  unfold trimR;rw[List.reverse_append,List.reverse_singleton,List.singleton_append,trimL,hp,cond_true]
 |false=>
  rw[cond_false]
  conv=>lhs;rw[e]
  unfold trimR;rw[List.reverse_append,List.reverse_singleton,List.singleton_append,trimL,hp,cond_false]
  conv=>rhs;rw[e]
  simp
/-- Is it a number's text: digits alone, no 0 ahead of others? -/
def okNum(s:List UInt8):Bool:=!(Nat.beq s.length 0)&&(!(Nat.ble 2 s.length&&Nat.beq (s.getD 0 0).toNat 48)&&s.all isD)
def numV(s:List UInt8)(most:Int):Int:=bif okNum s&&decide ((numF 0 s:Int)≤most)then(numF 0 s:Int)else 0
def numE(s:List UInt8)(most:Int):Int:=bif okNum s then bif decide ((numF 0 s:Int)≤most)then 0 else 40 else 4
end Go.Vm
namespace Go.Proofs.YtmcdajbfomngcaaDoor
open Go Go.Vm Go.RowKit
set_option linter.unusedVariables false
set_option maxRecDepth 100000
set_option linter.unusedSectionVars false
variable [Φ:Frz]
theorem tr_round(s:List UInt8)(la:List V)(R:Exit→List (Option V)→St→Prop):roundW Tryd.prog T3 9 10 (rounds 9) 52 12 [0,1,4] [.str s,.ptr 0 0,.str []] [.ro false la] R=
  (
 bif decide ((↑s.length:Int)>0)then bif decide (0≤IntKind.i64.wrap ((↑s.length:Int)-1))&&(IntKind.i64.wrap ((↑s.length:Int)-1)).toNat.blt s.length then
 bif true&&decide ((↑(s.getD (IntKind.i64.wrap ((↑s.length:Int)-1)).toNat 0).toNat:Int)<256)then bif (0+(↑(s.getD (IntKind.i64.wrap ((↑s.length:Int)-
 1)).toNat 0).toNat:Int).toNat*1).blt la.length then bif isBoolV (la.getD (0+(↑(s.getD (IntKind.i64.wrap ((↑s.length:Int)-1)).toNat 0).toNat:Int).toNat*1)
 (V.bool false))then bif !boolOfV (la.getD (0+(↑(s.getD (IntKind.i64.wrap ((↑s.length:Int)-1)).toNat 0).toNat:Int).toNat*1) (V.bool false))then R (Exit.exit 0)
 [some (V.str s),some (V.ptr 0 0),some (V.str [])] [Blk.ro false la]else bif decide (0≤IntKind.i64.wrap ((↑s.length:Int)-1))then bif true&&(IntKind.i64.wrap
 ((↑s.length:Int)-1)).toNat.ble s.length then R Exit.normal [some (V.str (List.take ((IntKind.i64.wrap ((↑s.length:Int)-1)).toNat-0) (List.drop 0 s))),some
 (V.ptr 0 0),some (V.str [])] [Blk.ro false la]else False else False else False else False else False else False else R (Exit.exit 0) [some (V.str s),some (V.ptr 0 0),
 some (V.str [])] [Blk.ro false la]):=by kernel_rfl
theorem tl_round(s:List UInt8)(la:List V)(R:Exit→List (Option V)→St→Prop):roundW Tryd.prog T3 9 10 (rounds 9) 69 12 [0,1,4] [.str s,.ptr 0 0,.str []] [.ro false la] R=
  (
 bif decide ((↑s.length:Int)>0)then bif true&&Nat.blt 0 s.length then bif true&&decide ((↑(s.getD 0 0).toNat:Int)<256)then bif (0+(↑(s.getD 0 0).toNat:
 Int).toNat*1).blt la.length then bif isBoolV (la.getD (0+(↑(s.getD 0 0).toNat:Int).toNat*1) (V.bool false))then bif !boolOfV (la.getD (0+(↑(s.getD 0 0).toNat:
 Int).toNat*1) (V.bool false))then R (Exit.exit 0) [some (V.str s),some (V.ptr 0 0),some (V.str [])] [Blk.ro false la]else bif Nat.ble 1 s.length&&s.length.ble
 s.length then R Exit.normal [some (V.str (List.take (s.length-1) (List.drop 1 s))),some (V.ptr 0 0),some (V.str [])] [Blk.ro false la]else False else False else
 False else False else False else R (Exit.exit 0) [some (V.str s),some (V.ptr 0 0),some (V.str [])] [Blk.ro false la]):=by kernel_rfl
def okT(la:List V):Bool:=flatL la&&(Nat.beq la.length 256&&la.all isBoolV)
def pT(la:List V)(b:UInt8):Bool:=boolOfV (la.getD b.toNat (.bool false))
theorem okT_flat{la:List V}(h:okT la=true):flatL la=true:=by unfold okT at h;rw[Bool.and_eq_true]at h;exact h.1
theorem okT_get{la:List V}(h:okT la=true)(b:UInt8):b.toNat.blt la.length=true∧isBoolV (la.getD b.toNat (.bool false))=true:=by
 unfold okT at h;rw[Bool.and_eq_true,Bool.and_eq_true]at h;have hl:=Nat.eq_of_beq_eq_true h.2.1;have hb:=b.toNat_lt;have hlt:b.toNat<la.length:=by rw[hl];exact hb
 refine⟨Nat.ble_eq_true_of_le hlt,?_⟩;rw[List.getD_eq_getElem?_getD,List.getElem?_eq_getElem hlt];exact List.all_eq_true.1 h.2.2 _ (List.getElem_mem hlt)
def trRL(la:List V)(s:List UInt8):List UInt8:=trimR (pT la) s
def trLL(la:List V)(s:List UInt8):List UInt8:=trimL (pT la) s
structure TR where
 s:List UInt8
 la:List V
def trV(x:TR):List V:=[.str x.s,.ptr 0 0,.str []]
def trJ(x:TR):St:=[.ro false x.la]
def trPre(x:TR):Bool:=okT x.la&&okL x.s
def trMu(x:TR):Nat:=x.s.length
def trDec:List (Option V)→St→Option TR
 |[some (.str s),some (.ptr 0 0),some (.str [])],[.ro false la]=>some ⟨s,la⟩
 |_,_=>none
def trOut:Asks TR:=fun x K=>K (.exit 0) [.str (trRL x.la x.s),.ptr 0 0,.str []] [.ro false x.la]
def tlOut:Asks TR:=fun x K=>K (.exit 0) [.str (trLL x.la x.s),.ptr 0 0,.str []] [.ro false x.la]
theorem tr_fits(la:List V)(hf:flatL la=true)(s:List UInt8):Fits 1 [.str s,.ptr 0 0,.str []] [.ro false la] [some (.str s),some (.ptr 0 0),some (.str [])] [.ro false la]:=
 ⟨[0],[.str s,.ptr 0 0,.str []],rfl,rfl,FitsM.of ⟨.inr ⟨.ro false la,.inl (by simp only[renB,renL_of_flat la hf]),rfl⟩,trivial⟩,by decide,fun i hi=>by
   match i,hi with
   |0,_=>rfl⟩
theorem tr_roundOk(x:TR)(hx:trPre x=true):roundW Tryd.prog T3 9 10 (rounds 9) 52 12 [0,1,4] (trV x) (trJ x) (RoundOkA 1 trPre trV trJ trMu trOut x):=by
 obtain⟨s,la⟩:=x;unfold trPre at hx;rw[Bool.and_eq_true]at hx;have p1:okT la=true:=hx.1;have p2:=okL_le hx.2;simp only at p2;show roundW Tryd.prog T3 9 10 (rounds 9) 52 12 [0,1,4] [.str s,.ptr 0 0,.str []] [.ro false la] _;rw[tr_round];have h256:s=[]∨s≠[]:=Classical.em _;refine bif_intro (fun hb=>?_) (fun hb=>?_)
 ·have hl:0<s.length:=by have:=of_decide_eq_true hb;omega
  have hne:s≠[]:=List.length_pos_iff.1 hl;have e0:IntKind.i64.wrap ((s.length:Int)-1)=((s.length-1:Nat):Int):=by rw[IntWalk.i64_in _ ⟨by omega,by omega⟩];omega
  rw[e0];simp only[Int.toNat_natCast,Nat.zero_add,Nat.mul_one];have hc:=okT_get p1 (s.getD (s.length-1) 0);have hlt:=(s.getD (s.length-1) 0).toNat_lt;refine must_intro (by rw[Bool.and_eq_true];exact⟨decide_eq_true (by omega),Nat.ble_eq_true_of_le (by omega)⟩) ?_;refine must_intro (by rw[Bool.true_and];exact decide_eq_true (by omega)) (must_intro hc.1 (must_intro hc.2 ?_));refine bif_intro (fun h2=>?_) (fun h2=>?_)
  ·have h2:pT la (s.getD (s.length-1) 0)=false:=by simpa[pT]using h2
   refine⟨[.str s,.ptr 0 0,.str []],[.ro false la],fun K hK=>?_,tr_fits la (okT_flat p1) s⟩;have hK:K (.exit 0) [.str (trimR (pT la) s),.ptr 0 0,.str []] [.ro false la]:=hK;rw[trimR_snoc hne,h2,cond_false]at hK;exact hK
  ·have h2:pT la (s.getD (s.length-1) 0)=true:=by simpa[pT]using h2
   refine must_intro (decide_eq_true (by omega)) (must_intro (by rw[Bool.true_and];exact Nat.ble_eq_true_of_le (by omega)) ?_);rw[List.drop_zero,Nat.sub_zero];have hk:(s.take (s.length-1)).length=s.length-1:=by rw[List.length_take];omega
   refine⟨⟨s.take (s.length-1),la⟩,?_,tr_fits la (okT_flat p1) _,?_,fun K hK=>?_⟩
   ·unfold trPre;rw[Bool.and_eq_true];exact⟨p1,decide_eq_true (by simp only[hk];omega)⟩
   ·simp only[trMu,hk];omega
   ·have hK:K (.exit 0) [.str (trimR (pT la) s),.ptr 0 0,.str []] [.ro false la]:=hK;rw[trimR_snoc hne,h2,cond_true]at hK;exact hK
 ·have hl:s.length=0:=by have:=of_decide_eq_false hb;omega
  have hs:s=[]:=List.length_eq_zero_iff.1 hl;subst hs;exact⟨[.str [],.ptr 0 0,.str []],[.ro false la],fun K hK=>hK,tr_fits la (okT_flat p1) _⟩
theorem tl_roundOk(x:TR)(hx:trPre x=true):roundW Tryd.prog T3 9 10 (rounds 9) 69 12 [0,1,4] (trV x) (trJ x) (RoundOkA 1 trPre trV trJ trMu tlOut x):=by
 obtain⟨s,la⟩:=x;unfold trPre at hx;rw[Bool.and_eq_true]at hx;have p1:okT la=true:=hx.1;have p2:=okL_le hx.2;simp only at p2;show roundW Tryd.prog T3 9 10 (rounds 9) 69 12 [0,1,4] [.str s,.ptr 0 0,.str []] [.ro false la] _;rw[tl_round];cases s with
 |nil=>exact⟨[.str [],.ptr 0 0,.str []],[.ro false la],fun K hK=>hK,tr_fits la (okT_flat p1) _⟩
 |cons c r=>
  have e1:(c::r).getD 0 0=c:=rfl;rw[e1];simp only[Int.toNat_natCast,Nat.zero_add,Nat.mul_one,List.length_cons,List.drop_succ_cons,List.drop_zero,Nat.add_sub_cancel,List.take_length];have hc:=okT_get p1 c;have hlt:=c.toNat_lt;simp only[List.length_cons]at p2;refine bif_intro (fun hb=>?_) (fun hb=>absurd (of_decide_eq_false hb) (by omega));refine must_intro (by rw[Bool.true_and];exact Nat.ble_eq_true_of_le (by omega)) (must_intro (by rw[Bool.true_and];exact decide_eq_true (by omega)) (must_intro hc.1 (must_intro hc.2 ?_)));refine bif_intro (fun h2=>?_) (fun h2=>?_)
  ·have h2:pT la c=false:=by simpa[pT]using h2
   refine⟨[.str (c::r),.ptr 0 0,.str []],[.ro false la],fun K hK=>?_,tr_fits la (okT_flat p1) _⟩;have hK:K (.exit 0) [.str (trimL (pT la) (c::r)),.ptr 0 0,.str []] [.ro false la]:=hK;rw[trimL,h2,cond_false]at hK;exact hK
  ·have h2:pT la c=true:=by simpa[pT]using h2
   refine must_intro (by rw[Bool.and_eq_true];exact⟨Nat.ble_eq_true_of_le (by omega),Nat.ble_eq_true_of_le (by omega)⟩) ?_;refine⟨⟨r,la⟩,?_,tr_fits la (okT_flat p1) _,?_,fun K hK=>?_⟩
   ·unfold trPre;rw[Bool.and_eq_true];exact⟨p1,decide_eq_true (by simp only;omega)⟩
   ·simp only[trMu,List.length_cons];omega
   ·have hK:K (.exit 0) [.str (trimL (pT la) (c::r)),.ptr 0 0,.str []] [.ro false la]:=hK;rw[trimL,h2,cond_true]at hK;exact hK
noncomputable def lkTR:Nat→Trans→Trans:=withLoop 12 (loopA 1 (szOf Tryd.prog 52) [0,1,4] trDec trPre trV trJ trOut) (rounds 9)
noncomputable def lkTL:Nat→Trans→Trans:=withLoop 12 (loopA 1 (szOf Tryd.prog 69) [0,1,4] trDec trPre trV trJ tlOut) (rounds 9)
theorem lkTR_ok:FnLoopsW Tryd.prog 1 lkTR 52:=by
 unfold lkTR;exact fnLoopW (fnRoundsW 9 1 52) (by kernel_rfl) fun f st Q h=>loopA_ok (P:=Tryd.prog) (T:=T3) (k:=1) (lim:=9) (n:=10) (g:=52) (p0:=12) (lk:=rounds 9) mixed T3_ok (roundsW 9 _ _) trMu tr_roundOk h
theorem lkTL_ok:FnLoopsW Tryd.prog 1 lkTL 69:=by
 unfold lkTL;exact fnLoopW (fnRoundsW 9 1 69) (by kernel_rfl) fun f st Q h=>loopA_ok (P:=Tryd.prog) (T:=T3) (k:=1) (lim:=9) (n:=10) (g:=69) (p0:=12) (lk:=rounds 9) mixed T3_ok (roundsW 9 _ _) trMu tl_roundOk h
theorem trf_tree(s:List UInt8)(la:List V)(R:V→St→Prop):lookT 52 lkTR [.str s,.ptr 0 0] [.ro false la] R=
  (
 Fits 1 [V.str s,V.ptr 0 0,V.str []] [Blk.ro false la] [some (V.str s),some (V.ptr 0 0),some (V.str [])] [Blk.ro false la]∧bif trPre {s:=s,la:=la}then R
 (V.str (trRL la s)) [Blk.ro false la]else False):=by kernel_rfl
theorem tlf_tree(s:List UInt8)(la:List V)(R:V→St→Prop):lookT 69 lkTL [.str s,.ptr 0 0] [.ro false la] R=
  (
 Fits 1 [V.str s,V.ptr 0 0,V.str []] [Blk.ro false la] [some (V.str s),some (V.ptr 0 0),some (V.str [])] [Blk.ro false la]∧bif trPre {s:=s,la:=la}then R
 (V.str (trLL la s)) [Blk.ro false la]else False):=by kernel_rfl
def digC:List V:=List.replicate 48 (.bool false)++(List.replicate 10 (.bool true)++List.replicate 198 (.bool false))
theorem digC_ok:okT digC=true:=by decide+kernel
theorem pT_digC:pT digC=isD:=by
 funext b;have h:∀i:Fin 256,pT digC (UInt8.ofNat i.val)=isD (UInt8.ofNat i.val):=by decide+kernel
 have:=h ⟨b.toNat,b.toNat_lt⟩;simpa using this
noncomputable def trG:List V→St→Option (List (Bool×(V×St)))
 |[.str s,.ptr 0 0],[.ro false la]=>bif eqLL la digC then some [(okL s,(.str (trimR isD s),[]))]else none
 |_,_=>none
noncomputable def tlG:List V→St→Option (List (Bool×(V×St)))
 |[.str s,.ptr 0 0],[.ro false la]=>bif eqLL la digC then some [(okL s,(.str (trimL isD s),[]))]else none
 |_,_=>none
theorem trG_ok(args:List V)(s:St)(l:List (Bool×(V×St)))(v:V)(n:St)(h:trG args s=some l)(ho:pickO l=some (v,n)):(∀b∈s,flatL b.cs=true)∧FnSat Tryd.prog 52 args s (fun u st=>Fits 0 [v] n [some u] st):=by
 unfold trG at h;split at h
 ·rename_i s la;cases he:eqLL la digC with
  |false=>rw[he]at h;cases h
  |true=>
   rw[he]at h;cases eqLL_ok _ _ he;cases h;cases hk:okL s with
   |false=>rw[hk]at ho;cases ho
   |true=>
    rw[hk]at ho;cases ho;have hf:flatL digC=true:=okT_flat digC_ok;refine⟨by simp[Blk.cs,hf],lookT_ok (lk:=lkTR) lkTR_ok ?_⟩;rw[trf_tree,trRL,pT_digC];refine⟨tr_fits digC hf s,must_intro ?_ ⟨[],[.str (trimR isD s)],rfl,rfl,FitsM.of trivial,by simp,fun i hi=>by omega⟩⟩;unfold trPre;rw[digC_ok,hk];rfl
 ·cases h
theorem tlG_ok(args:List V)(s:St)(l:List (Bool×(V×St)))(v:V)(n:St)(h:tlG args s=some l)(ho:pickO l=some (v,n)):(∀b∈s,flatL b.cs=true)∧FnSat Tryd.prog 69 args s (fun u st=>Fits 0 [v] n [some u] st):=by
 unfold tlG at h;split at h
 ·rename_i s la;cases he:eqLL la digC with
  |false=>rw[he]at h;cases h
  |true=>
   rw[he]at h;cases eqLL_ok _ _ he;cases h;cases hk:okL s with
   |false=>rw[hk]at ho;cases ho
   |true=>
    rw[hk]at ho;cases ho;have hf:flatL digC=true:=okT_flat digC_ok;refine⟨by simp[Blk.cs,hf],lookT_ok (lk:=lkTL) lkTL_ok ?_⟩;rw[tlf_tree,trLL,pT_digC];refine⟨tr_fits digC hf s,must_intro ?_ ⟨[],[.str (trimL isD s)],rfl,rfl,FitsM.of trivial,by simp,fun i hi=>by omega⟩⟩;unfold trPre;rw[digC_ok,hk];rfl
 ·cases h
noncomputable def T4:Tab:=⟨noT,addM (addM noL 52 trG) 69 tlG,noLks 20⟩
theorem T4_ok:TabOk3 Tryd.prog T4:=⟨noT_ok,addM_ok (addM_ok noL_ok trG_ok) tlG_ok,noLks_ok 20⟩
theorem trim_tree(s:List UInt8)(R:V→Prop):runW Tryd.prog T4 99 10 43 [.str s,.str [48,49,50,51,52,53,54,55,56,57]] R=
  (
 bif s==[]then R (V.str s)else bif okL s then bif okL (trimR isD s)then R (V.str (trimL isD (trimR isD s)))else False else False):=by kernel_rfl
end Go.Proofs.YtmcdajbfomngcaaDoor
namespace Go.Proofs
open Go.Shelf
def Tryd.laysC172_ren:Go.Shelf.Ren:=⟨fun|172=>44|244=>71|245=>72|247=>87|279=>88|280=>89|281=>90|282=>91|287=>102|316=>103|171=>45|205=>104|321=>113|322=>114|243=>73|246=>92|283=>105|284=>106|285=>107|286=>108|129=>116|317=>115|318=>117|319=>118|320=>119|337=>121|338=>122|n=>n,fun|9=>9|3=>3|75=>70|76=>71|4=>4|5=>5|167=>109|37=>53|0=>0|85=>110|2=>2|168=>112|53=>30|175=>125|46=>39|210=>128|127=>105|145=>140|143=>138|21=>21|171=>130|173=>133|212=>142|51=>73|20=>20|213=>143|232=>149|233=>150|80=>98|n=>n,fun|15=>4|16=>5|17=>6|18=>7|19=>8|n=>n⟩
theorem Tryd.laysC172:Go.Proofs.LaysC.n172 Tryd.prog Tryd.laysC172_ren:={
 mixed:=by kernel_rfl
 f129:=Tryd.func116.trans (congrArg some (by kernel_rfl))
 f171:=Tryd.func45.trans (congrArg some (by kernel_rfl))
 f172:=Tryd.func44.trans (congrArg some (by kernel_rfl))
 f205:=Tryd.func104.trans (congrArg some (by kernel_rfl))
 f243:=Tryd.func73.trans (congrArg some (by kernel_rfl))
 f244:=Tryd.func71.trans (congrArg some (by kernel_rfl))
 f245:=Tryd.func72.trans (congrArg some (by kernel_rfl))
 f246:=Tryd.func92.trans (congrArg some (by kernel_rfl))
 f247:=Tryd.func87.trans (congrArg some (by kernel_rfl))
 f279:=Tryd.func88.trans (congrArg some (by kernel_rfl))
 f280:=Tryd.func89.trans (congrArg some (by kernel_rfl))
 f281:=Tryd.func90.trans (congrArg some (by kernel_rfl))
 f282:=Tryd.func91.trans (congrArg some (by kernel_rfl))
 f283:=Tryd.func105.trans (congrArg some (by kernel_rfl))
 f284:=Tryd.func106.trans (congrArg some (by kernel_rfl))
 f285:=Tryd.func107.trans (congrArg some (by kernel_rfl))
 f286:=Tryd.func108.trans (congrArg some (by kernel_rfl))
 f287:=Tryd.func102.trans (congrArg some (by kernel_rfl))
 f316:=Tryd.func103.trans (congrArg some (by kernel_rfl))
 f317:=Tryd.func115.trans (congrArg some (by kernel_rfl))
 f318:=Tryd.func117.trans (congrArg some (by kernel_rfl))
 f319:=Tryd.func118.trans (congrArg some (by kernel_rfl))
 f320:=Tryd.func119.trans (congrArg some (by kernel_rfl))
 f321:=Tryd.func113.trans (congrArg some (by kernel_rfl))
 f322:=Tryd.func114.trans (congrArg some (by kernel_rfl))
 f337:=Tryd.func121.trans (congrArg some (by kernel_rfl))
 f338:=Tryd.func122.trans (congrArg some (by kernel_rfl))
 t0:=Tryd.underlying0
 a0:=Tryd.isAgg0
 z0:=Tryd.sizeOf0
 v0:=Tryd.zeroValue0
 t2:=Tryd.underlying2
 a2:=Tryd.isAgg2
 z2:=Tryd.sizeOf2
 v2:=Tryd.zeroValue2
 t3:=Tryd.underlying3
 a3:=Tryd.isAgg3
 z3:=Tryd.sizeOf3
 v3:=Tryd.zeroValue3
 t4:=Tryd.underlying4
 a4:=Tryd.isAgg4
 z4:=Tryd.sizeOf4
 v4:=Tryd.zeroValue4
 t5:=Tryd.underlying5
 a5:=Tryd.isAgg5
 z5:=Tryd.sizeOf5
 v5:=Tryd.zeroValue5
 t9:=Tryd.underlying9
 a9:=Tryd.isAgg9
 z9:=Tryd.sizeOf9
 v9:=Tryd.zeroValue9
 t20:=Tryd.underlying20
 a20:=Tryd.isAgg20
 z20:=Tryd.sizeOf20
 v20:=Tryd.zeroValue20
 t21:=Tryd.underlying21
 a21:=Tryd.isAgg21
 z21:=Tryd.sizeOf21
 v21:=Tryd.zeroValue21
 t37:=Tryd.underlying53
 a37:=Tryd.isAgg53
 z37:=Tryd.sizeOf53
 v37:=Tryd.zeroValue53
 t46:=Tryd.underlying39
 a46:=Tryd.isAgg39
 z46:=Tryd.sizeOf39
 v46:=Tryd.zeroValue39
 t51:=Tryd.underlying73
 a51:=Tryd.isAgg73
 z51:=Tryd.sizeOf73
 v51:=Tryd.zeroValue73
 t53:=Tryd.underlying30
 a53:=Tryd.isAgg30
 z53:=Tryd.sizeOf30
 v53:=Tryd.zeroValue30
 t75:=Tryd.underlying70
 a75:=Tryd.isAgg70
 z75:=Tryd.sizeOf70
 v75:=Tryd.zeroValue70
 t76:=Tryd.underlying71
 a76:=Tryd.isAgg71
 z76:=Tryd.sizeOf71
 v76:=Tryd.zeroValue71
 t85:=Tryd.underlying110
 a85:=Tryd.isAgg110
 z85:=Tryd.sizeOf110
 v85:=Tryd.zeroValue110
 t127:=Tryd.underlying105
 a127:=Tryd.isAgg105
 z127:=Tryd.sizeOf105
 v127:=Tryd.zeroValue105
 t143:=Tryd.underlying138
 a143:=Tryd.isAgg138
 z143:=Tryd.sizeOf138
 v143:=Tryd.zeroValue138
 t145:=Tryd.underlying140
 a145:=Tryd.isAgg140
 z145:=Tryd.sizeOf140
 v145:=Tryd.zeroValue140
 t167:=Tryd.underlying109
 a167:=Tryd.isAgg109
 z167:=Tryd.sizeOf109
 v167:=Tryd.zeroValue109
 t168:=Tryd.underlying112
 a168:=Tryd.isAgg112
 z168:=Tryd.sizeOf112
 v168:=Tryd.zeroValue112
 t171:=Tryd.underlying130
 a171:=Tryd.isAgg130
 z171:=Tryd.sizeOf130
 v171:=Tryd.zeroValue130
 t173:=Tryd.underlying133
 a173:=Tryd.isAgg133
 z173:=Tryd.sizeOf133
 v173:=Tryd.zeroValue133
 t175:=Tryd.underlying125
 a175:=Tryd.isAgg125
 z175:=Tryd.sizeOf125
 v175:=Tryd.zeroValue125
 t210:=Tryd.underlying128
 a210:=Tryd.isAgg128
 z210:=Tryd.sizeOf128
 v210:=Tryd.zeroValue128
 t212:=Tryd.underlying142
 a212:=Tryd.isAgg142
 z212:=Tryd.sizeOf142
 v212:=Tryd.zeroValue142
 t213:=Tryd.underlying143
 a213:=Tryd.isAgg143
 z213:=Tryd.sizeOf143
 t232:=Tryd.underlying149
 a232:=Tryd.isAgg149
 z232:=Tryd.sizeOf149
 v232:=Tryd.zeroValue149
 t233:=Tryd.underlying150
 a233:=Tryd.isAgg150
 z233:=Tryd.sizeOf150
 v233:=Tryd.zeroValue150
 g15:=by kernel_rfl
 g16:=by kernel_rfl
 g17:=by kernel_rfl
 g18:=by kernel_rfl
 g19:=by kernel_rfl
 t80:=Tryd.underlying98
 a80:=Tryd.isAgg98
 z80:=Tryd.sizeOf98
 v80:=Tryd.zeroValue98
 i0:=by kernel_rfl
 i2:=by kernel_rfl
 i3:=by kernel_rfl
 i4:=by kernel_rfl
 i5:=by kernel_rfl
 i9:=by kernel_rfl
 i20:=by kernel_rfl
 i21:=by kernel_rfl
 i37:=by kernel_rfl
 i46:=by kernel_rfl
 i51:=by kernel_rfl
 i53:=by kernel_rfl
 i75:=by kernel_rfl
 i76:=by kernel_rfl
 i80:=by kernel_rfl
 i85:=by kernel_rfl
 i127:=by kernel_rfl
 i143:=by kernel_rfl
 i145:=by kernel_rfl
 i167:=by kernel_rfl
 i168:=by kernel_rfl
 i171:=by kernel_rfl
 i173:=by kernel_rfl
 i175:=by kernel_rfl
 i210:=by kernel_rfl
 i212:=by kernel_rfl
 i232:=by kernel_rfl
 i233:=by kernel_rfl
 m15:=by kernel_rfl
 m16:=by kernel_rfl
 m17:=by kernel_rfl
 m18:=by kernel_rfl
 m19:=by kernel_rfl
 c0:=by kernel_rfl
 c2:=by kernel_rfl
 c3:=by kernel_rfl
 c4:=by kernel_rfl
 c5:=by kernel_rfl
 c9:=by kernel_rfl
 c20:=by kernel_rfl
 c21:=by kernel_rfl
 c37:=by kernel_rfl
 c46:=by kernel_rfl
 c51:=by kernel_rfl
 c53:=by kernel_rfl
 c75:=by kernel_rfl
 c76:=by kernel_rfl
 c80:=by kernel_rfl
 c85:=by kernel_rfl
 c127:=by kernel_rfl
 c143:=by kernel_rfl
 c145:=by kernel_rfl
 c167:=by kernel_rfl
 c168:=by kernel_rfl
 c171:=by kernel_rfl
 c173:=by kernel_rfl
 c175:=by kernel_rfl
 c210:=by kernel_rfl
 c212:=by kernel_rfl
 c213:=by kernel_rfl
 c232:=by kernel_rfl
 c233:=by kernel_rfl}
open Go.RowKit in
theorem Tryd.strconv_Atoi_ok(s:ByteArray)(hmax:s.size≤9223372036854775806)(v:Int)(h:Lib.atoiAll s.data.toList=.ok v)(w:World):
 Calls Tryd.prog 44 #[.string s] w fun e w'=>e=.returned (.tuple #[.int .i64 v,.nilIface])∧(w'=w∨∃t,w'=Lib.bytesWorld w 5 t):=Any.strconv_Atoi_ok Tryd.laysC172 s hmax v h w
open Go.RowKit in
theorem Tryd.strconv_Atoi_range(s:ByteArray)(hlim:s.size≤281474976710656)(h:Lib.atoiAll s.data.toList=.range)(ev:Value)(w:World)(hv:w.cell? ⟨5,0,none⟩=some ev)(hev:ev=.nilIface∨∃te pe,ev=.iface te pe):
 Calls Tryd.prog 44 #[.string s] w fun e w'=>∃N,e=.returned (.tuple #[.int .i64 (Lib.atoiSat s.data.toList),.iface 112 (.pointer (some ⟨N,0,none⟩))])∧w.heap.size≤N∧w'.heap[N]?=some (.cells #[.string ⟨#[65,116,111,105]⟩,.string s,ev] 128 (0,0))∧Below w.heap.size w w':=Any.strconv_Atoi_range Tryd.laysC172 s hlim h ev w hv hev
end Go.Proofs
namespace Go.Proofs.YtmcdajbfomngcaaDoor
open Go Go.Vm Go.RowKit
set_option linter.unusedVariables false
set_option linter.unusedSectionVars false
variable [Φ:Frz]
def okDig(s:List UInt8):Bool:=okL s&&(!(Nat.beq s.length 0)&&s.all isD)
def fitsI(s:List UInt8):Bool:=decide ((numF 0 s:Int)≤9223372036854775807)
def atoiT:List V→Option (List (Bool×(V×St)))
 |[.str s]=>some [(okDig s&&fitsI s,(.tuple [.int .i64 (numF 0 s:Int),.nilIface],[])),(okDig s,(.tuple [.int .i64 9223372036854775807,.iface 112 (.ptr 0 0)],[.dead]))]
 |_=>none
theorem okDig_spec{s:List UInt8}(h:okDig s=true):(s.length:Int)≤99999∧s≠[]∧s.all isD=true:=by
 unfold okDig at h;rw[Bool.and_eq_true,Bool.and_eq_true]at h;refine⟨okL_le h.1,fun e=>?_,h.2.2⟩;rw[e]at h;exact absurd h.2.1 (by decide)
theorem atoiSat_dig{s:List UInt8}(h:s.all isD=true):Lib.atoiSat s=9223372036854775807:=by
 unfold Lib.atoiSat;rw[if_neg];cases s with
 |nil=>simp
 |cons c r=>
  have hc:=(isD_iff c).1 (by simp only[List.all_cons,Bool.and_eq_true]at h;exact h.1);intro e;simp only[List.head?_cons,Option.map_some,Option.some.injEq]at e;omega
theorem atoi_ok(args:List V)(l:List (Bool×(V×St)))(o:V×St)(h:atoiT args=some l)(ho:pickO l=some o):FnSat Tryd.prog 44 args [] (Is o):=by
 unfold atoiT at h;split at h
 ·rename_i s;cases h;intro B W0 m w rargs hargs hr;obtain⟨a1,r1,g1,g2,rfl⟩:=realL_cons hargs;simp only[realL,Option.some.injEq]at g2;subst g2;cases real_str g1;have hsz:(ByteArray.mk s.toArray).size=s.length:=by show s.toArray.size=_;simp
  have hdat:(ByteArray.mk s.toArray).data.toList=s:=by simp
  cases hd:okDig s with
  |false=>rw[hd]at ho;cases ho
  |true=>
   obtain⟨h1,h2,h3⟩:=okDig_spec hd;have ha:=atoi_dig h2 h3;cases hf:fitsI s with
   |true=>
    rw[hd,hf]at ho;cases ho;have hle:(numF 0 s:Int)≤9223372036854775807:=of_decide_eq_true hf;rw[if_pos (by omega)]at ha;refine(Tryd.strconv_Atoi_ok ⟨s.toArray⟩ (by rw[hsz];omega) (numF 0 s:Int) (by rw[hdat];exact ha) w).mono ?_;rintro e w' ⟨rfl,hw⟩;have hb:Below w.heap.size w w':=by
     rcases hw with rfl|⟨t,rfl⟩
     ·exact Below.refl _ _
     ·exact Lib.bytesWorld_below _ _ _
    exact⟨.tuple [.int .i64 (numF 0 s:Int),.nilIface],_,m,[],rfl,Ext.refl m,rfl,hr.later hb,rfl⟩
   |false=>
    rw[hd,hf]at ho;cases ho;have hle:¬(numF 0 s:Int)≤9223372036854775807:=of_decide_eq_false hf;rw[if_neg (by omega)]at ha;have hm:m=[]:=List.eq_nil_of_length_eq_zero hr.len;subst hm;obtain⟨h31,arr,t,fz,ev,h32,h33,h34⟩:=hr.gok.2.1 5 rfl;refine(Tryd.strconv_Atoi_range ⟨s.toArray⟩ (by rw[hsz];omega) (by rw[hdat];exact ha) ev w (by rw[cell_of_row w 5 0 _ t fz h32];exact h33) h34).mono ?_;rintro e w' ⟨N,rfl,hN,_,hb⟩;have hl:=hr.later hb;refine⟨.tuple [.int .i64 9223372036854775807,.iface 112 (.ptr 0 0)],_,[⟨N,0,0,false⟩],[.dead],rfl,fun b e hb=>by simp at hb,?_,⟨rfl,hl.base,hl.below,fun i b e hb he=>?_,fun i j b c d e hij hb hrw hc hlv hd he=>?_,hl.glob⟩,rfl⟩
    ·have e1:Lib.atoiSat (ByteArray.mk s.toArray).data.toList=9223372036854775807:=by rw[hdat];exact atoiSat_dig h3
     rw[e1];simp[real,realL,at?]
    ·cases i with
     |zero=>simp only[List.getElem?_cons_zero,Option.some.injEq]at hb;subst hb;trivial
     |succ i=>simp at hb
    ·cases i with
     |zero=>simp only[List.getElem?_cons_zero,Option.some.injEq]at hb;subst hb;cases hrw
     |succ i=>simp at hb
 ·cases h
end Go.Proofs.YtmcdajbfomngcaaDoor
namespace Go.Proofs
open Go.Shelf
end Go.Proofs
namespace Go.Proofs.YtmcdajbfomngcaaDoor
open Go Go.Vm Go.RowKit
set_option linter.unusedVariables false
set_option linter.unusedSectionVars false
variable [Φ:Frz]
end Go.Proofs.YtmcdajbfomngcaaDoor
namespace Go.Proofs.YtmcdajbfomngcaaDoor
open Go Go.Vm Go.RowKit
set_option linter.unusedVariables false
set_option maxRecDepth 100000
set_option linter.unusedSectionVars false
variable [Φ:Frz]
theorem trimL_len(p:UInt8→Bool):∀s:List UInt8,(trimL p s).length≤s.length
 |[]=>Nat.le_refl _
 |c::r=>by
  have:=trimL_len p r;rw[trimL];cases p c with
  |true=>rw[cond_true,List.length_cons];omega
  |false=>rw[cond_false];exact Nat.le_refl _
theorem okL_trimR{s:List UInt8}(p:UInt8→Bool)(h:okL s=true):okL (trimR p s)=true:=by
 have h1:=okL_le h;have h2:=trimL_len p s.reverse;rw[List.length_reverse]at h2;unfold okL trimR;rw[List.length_reverse];exact decide_eq_true (by omega)
def tens:List UInt8:=[48,49,50,51,52,53,54,55,56,57]
theorem trim_none:trimL isD (trimR isD [])=[]:=by simp[trimR,trimL]
def trimT:List V→Option (List (Bool×(V×St)))
 |[.str s,.str t]=>bif eqLL [.str t] [.str tens]then some [(okL s,(.str (trimL isD (trimR isD s)),[]))]else none
 |_=>none
theorem trim_ok(args:List V)(l:List (Bool×(V×St)))(o:V×St)(h:trimT args=some l)(ho:pickO l=some o):FnSat Tryd.prog 43 args [] (Is o):=by
 unfold trimT at h;split at h
 ·rename_i s t;cases he:eqLL [.str t] [.str tens]with
  |false=>rw[he]at h;cases h
  |true=>
   rw[he]at h;cases eqLL_ok _ _ he;cases h;cases hk:okL s with
   |false=>rw[hk]at ho;cases ho
   |true=>
    rw[hk]at ho;cases ho;refine pureW_of (lim:=99) (n:=10) mixed T4_ok rfl rfl ?_;show runW Tryd.prog T4 99 10 43 [.str s,.str [48,49,50,51,52,53,54,55,56,57]] _;rw[trim_tree];refine bif_intro (fun h=>?_) (fun h=>must_intro hk (must_intro (okL_trimR isD hk) rfl));have h:s=[]:=eq_of_beq h;rw[h,trim_none]
 ·cases h
noncomputable def T7:Tab:=⟨addT (addT noT 43 trimT) 44 atoiT,noL,noLks 9⟩
theorem T7_ok:TabOk3 Tryd.prog T7:=⟨addT_ok (addT_ok noT_ok trim_ok) atoi_ok,noL_ok,noLks_ok 9⟩
theorem cnum_tree(s:List UInt8)(most:Int)(R:V→Prop):runW Tryd.prog T7 9 10 27 [.str s,.int .i64 most] R=
  (
 bif s==[]then R (V.tuple [V.int IntKind.i64 0,V.int IntKind.i64 4])else bif decide ((↑s.length:Int)>1)then bif true&&Nat.blt 0 s.length then bif (↑(s.getD 0
 0).toNat:Int)==48 then R (V.tuple [V.int IntKind.i64 0,V.int IntKind.i64 4])else bif okL s then bif !trimL isD (trimR isD s)==[]then R (V.tuple [V.int
 IntKind.i64 0,V.int IntKind.i64 4])else bif okDig s&&fitsI s then bif decide ((↑(numF 0 s):Int)>most)then R (V.tuple [V.int IntKind.i64 0,V.int IntKind.i64 40])
 else R (V.tuple [V.int IntKind.i64 (↑(numF 0 s):Int),V.int IntKind.i64 0])else bif okDig s then R (V.tuple [V.int IntKind.i64 0,V.int IntKind.i64 40])else False
 else False else False else bif okL s then bif !trimL isD (trimR isD s)==[]then R (V.tuple [V.int IntKind.i64 0,V.int IntKind.i64 4])else bif okDig s&&fitsI s then
 bif decide ((↑(numF 0 s):Int)>most)then R (V.tuple [V.int IntKind.i64 0,V.int IntKind.i64 40])else R (V.tuple [V.int IntKind.i64 (↑(numF 0 s):Int),V.int
 IntKind.i64 0])else bif okDig s then R (V.tuple [V.int IntKind.i64 0,V.int IntKind.i64 40])else False else False):=by kernel_rfl
theorem isI64_spec{n:Int}(h:isI64 n=true):-9223372036854775808≤n∧n≤9223372036854775807:=by
 unfold isI64 at h;rw[Bool.and_eq_true]at h;exact⟨of_decide_eq_true h.1,of_decide_eq_true h.2⟩
theorem okNum_nil:okNum []=false:=rfl
theorem okNum_zero{s:List UInt8}(h1:(s.length:Int)>1)(h2:(s.getD 0 0).toNat=48):okNum s=false:=by
 unfold okNum;rw[Nat.ble_eq_true_of_le (by omega:2≤s.length),h2];simp
theorem okNum_all{s:List UInt8}(h:s.all isD=false):okNum s=false:=by
 unfold okNum;rw[h,Bool.and_false,Bool.and_false]
theorem okNum_in{s:List UInt8}(h1:s≠[])(h2:¬((s.length:Int)>1∧(s.getD 0 0).toNat=48))(h:s.all isD=true):okNum s=true:=by
 unfold okNum;have hl:0<s.length:=List.length_pos_iff.2 h1;have e1:Nat.beq s.length 0=false:=by
  cases h:Nat.beq s.length 0 with
  |false=>rfl
  |true=>have:=Nat.eq_of_beq_eq_true h;omega
 have e2:(Nat.ble 2 s.length&&Nat.beq (s.getD 0 0).toNat 48)=false:=by
  cases h:(Nat.ble 2 s.length&&Nat.beq (s.getD 0 0).toNat 48)with
  |false=>rfl
  |true=>
   rw[Bool.and_eq_true]at h;have a:=Nat.le_of_ble_eq_true h.1;have b:=Nat.eq_of_beq_eq_true h.2;exact absurd ⟨by omega,b⟩ h2
 rw[h,e1,e2];rfl
theorem num_none{s:List UInt8}{most:Int}(h:okNum s=false):numV s most=0∧numE s most=4:=by
 unfold numV numE;rw[h,Bool.false_and,cond_false,cond_false];exact⟨rfl,rfl⟩
theorem num_in{s:List UInt8}{most:Int}(h:okNum s=true)(hm:decide ((numF 0 s:Int)≤most)=true):numV s most=(numF 0 s:Int)∧numE s most=0:=by
 unfold numV numE;rw[h,hm,Bool.true_and,cond_true,cond_true,cond_true];exact⟨rfl,rfl⟩
theorem num_out{s:List UInt8}{most:Int}(h:okNum s=true)(hm:decide ((numF 0 s:Int)≤most)=false):numV s most=0∧numE s most=40:=by
 unfold numV numE;rw[h,hm,Bool.true_and,cond_false,cond_true,cond_false];exact⟨rfl,rfl⟩
theorem okDig_in{s:List UInt8}(h0:okL s=true)(h1:s≠[])(h:s.all isD=true):okDig s=true:=by
 unfold okDig;have hl:0<s.length:=List.length_pos_iff.2 h1;have e1:Nat.beq s.length 0=false:=by
  cases h:Nat.beq s.length 0 with
  |false=>rfl
  |true=>have:=Nat.eq_of_beq_eq_true h;omega
 rw[h0,h,e1];rfl
def numT:List V→Option (List (Bool×(V×St)))
 |[.str s,.int .i64 most]=>some [(okL s&&isI64 most,(.tuple [.int .i64 (numV s most),.int .i64 (numE s most)],[]))]
 |_=>none
theorem cnum_ok(args:List V)(l:List (Bool×(V×St)))(o:V×St)(h:numT args=some l)(ho:pickO l=some o):FnSat Tryd.prog 27 args [] (Is o):=by
 unfold numT at h;split at h
 ·rename_i s most;cases h;cases hk:(okL s&&isI64 most)with
  |false=>rw[hk]at ho;cases ho
  |true=>
   rw[hk]at ho;cases ho;rw[Bool.and_eq_true]at hk;refine pureW_of (lim:=9) (n:=10) mixed T7_ok rfl rfl ?_;rw[cnum_tree];refine bif_intro (fun hs=>?_) (fun hs=>?_)
   ·have hs:s=[]:=eq_of_beq hs;rw[hs,(num_none okNum_nil).1,(num_none okNum_nil).2]
   have hne:s≠[]:=fun e=>by rw[e]at hs;cases hs
   refine bif_intro (fun h1=>must_intro ?_ (bif_intro (fun h2=>?_) (fun h2=>?_))) (fun h1=>?_)
   ·rw[Bool.true_and];exact Nat.ble_eq_true_of_le (List.length_pos_iff.2 hne)
   ·have ho:=okNum_zero (of_decide_eq_true h1) (by have:=eq_of_beq h2;omega);rw[(num_none ho).1,(num_none ho).2]
   ·have hz:¬((s.length:Int)>1∧(s.getD 0 0).toNat=48):=fun⟨_,e⟩=>by rw[e]at h2;cases h2
    clear h1 h2;refine must_intro hk.1 (bif_intro (fun ha=>?_) (fun ha=>?_))
    ·have ha:s.all isD=false:=by
      cases h:s.all isD with
      |false=>rfl
      |true=>
       rw[trim_nil.2 h]at ha;cases ha
     have ho:=okNum_all ha;rw[(num_none ho).1,(num_none ho).2]
    ·have ha:s.all isD=true:=by
      refine trim_nil.1 ?_;cases h:(trimL isD (trimR isD s)==[])with
      |true=>exact eq_of_beq h
      |false=>rw[h]at ha;cases ha
     have ho:=okNum_in hne hz ha;have hd:okDig s=true:=okDig_in hk.1 hne ha;rw[hd];refine bif_intro (fun hf=>bif_intro (fun hm=>?_) (fun hm=>?_)) (fun hf=>?_)
     ·have hm:decide ((numF 0 s:Int)≤most)=false:=decide_eq_false (by have:=of_decide_eq_true hm;omega);rw[(num_out ho hm).1,(num_out ho hm).2]
     ·have hm:decide ((numF 0 s:Int)≤most)=true:=decide_eq_true (by have:=of_decide_eq_false hm;omega);rw[(num_in ho hm).1,(num_in ho hm).2]
     ·refine must_intro rfl ?_;have hf:fitsI s=false:=hf;have hm:decide ((numF 0 s:Int)≤most)=false:=decide_eq_false (by have:=of_decide_eq_false hf;have:=(isI64_spec hk.2).2;omega);rw[(num_out ho hm).1,(num_out ho hm).2]
   ·have hz:¬((s.length:Int)>1∧(s.getD 0 0).toNat=48):=fun⟨e,_⟩=>of_decide_eq_false h1 e;clear h1;refine must_intro hk.1 (bif_intro (fun ha=>?_) (fun ha=>?_))
    ·have ha:s.all isD=false:=by
      cases h:s.all isD with
      |false=>rfl
      |true=>
       rw[trim_nil.2 h]at ha;cases ha
     have ho:=okNum_all ha;rw[(num_none ho).1,(num_none ho).2]
    ·have ha:s.all isD=true:=by
      refine trim_nil.1 ?_;cases h:(trimL isD (trimR isD s)==[])with
      |true=>exact eq_of_beq h
      |false=>rw[h]at ha;cases ha
     have ho:=okNum_in hne hz ha;have hd:okDig s=true:=okDig_in hk.1 hne ha;rw[hd];refine bif_intro (fun hf=>bif_intro (fun hm=>?_) (fun hm=>?_)) (fun hf=>?_)
     ·have hm:decide ((numF 0 s:Int)≤most)=false:=decide_eq_false (by have:=of_decide_eq_true hm;omega);rw[(num_out ho hm).1,(num_out ho hm).2]
     ·have hm:decide ((numF 0 s:Int)≤most)=true:=decide_eq_true (by have:=of_decide_eq_false hm;omega);rw[(num_in ho hm).1,(num_in ho hm).2]
     ·refine must_intro rfl ?_;have hf:fitsI s=false:=hf;have hm:decide ((numF 0 s:Int)≤most)=false:=decide_eq_false (by have:=of_decide_eq_false hf;have:=(isI64_spec hk.2).2;omega);rw[(num_out ho hm).1,(num_out ho hm).2]
 ·cases h
end Go.Proofs.YtmcdajbfomngcaaDoor
namespace Go.Vm
open Go.Lib
def isUp(b:UInt8):Bool:=Nat.blt b.toNat 97
theorem mapD_up(f:Int→Int)(hf:∀c:Nat,c<97→f c=c):∀l:List UInt8,l.all isUp=true→mapD f l=l
 |[],_=>mapD_nil f
 |b::r,h=>by
  rw[List.all_cons,Bool.and_eq_true]at h;have hb:b.toNat<97:=Nat.le_of_ble_eq_true h.1;have hd:=decodeL_ascii b r (by omega);rw[mapD_same f (b::r) (by simp) (by rw[hd];exact hf _ hb) (by rw[hd];intro⟨_,h2⟩;simp_all),hd];show[b]++mapD f r=b::r;rw[mapD_up f hf r h.2];rfl
end Go.Vm
namespace Go.Vm
open Go.Lib
end Go.Vm
namespace Go.Vm
structure CP where
 st:Bool
 pi:Bool
 rq:Bool
 ds:Bool
 eb:Bool
 si:Bool
 mo:Int
def cp0:CP:=⟨false,false,false,false,false,false,0⟩
def wST:List UInt8:=[83,84,65,82,84,84,76,83]
def wPI:List UInt8:=[80,73,80,69,76,73,78,73,78,71]
def wRQ:List UInt8:=[82,69,81,85,73,82,69,84,76,83]
def wDS:List UInt8:=[68,83,78]
def wEB:List UInt8:=[56,66,73,84,77,73,77,69]
def wSI:List UInt8:=[83,73,90,69]
def wSZ:List UInt8:=[83,73,90,69,32]
def setW(u:List UInt8)(c:CP):CP:=⟨c.st||u==wST,c.pi||u==wPI,c.rq||u==wRQ,c.ds||u==wDS,c.eb||u==wEB,c.si||u==wSI,c.mo⟩
def lineU(NV NE:List UInt8→Int→Int)(u:List UInt8)(c:CP):CP:=
 bif (u.take 5==wSZ)&&!(NE (u.drop 5) 1099511627776==4)then{setW u c with si:=true,mo:=bif c.mo==0 then NV (u.drop 5) 1099511627776 else c.mo}else setW u c
def uniC(a b:CP):CP:=⟨a.st||b.st,a.pi||b.pi,a.rq||b.rq,a.ds||b.ds,a.eb||b.eb,a.si||b.si,bif a.mo==0 then b.mo else a.mo⟩
theorem line_uni(NV NE:List UInt8→Int→Int)(u:List UInt8)(c:CP):lineU NV NE u c=uniC c (lineU NV NE u cp0):=by
 obtain⟨a1,a2,a3,a4,a5,a6,m⟩:=c;unfold lineU uniC setW cp0;cases(u.take 5==wSZ)&&!(NE (u.drop 5) 1099511627776==4)with
 |true=>
  simp only[cond_true,Bool.false_or,CP.mk.injEq,true_and,Bool.or_true];exact rfl
 |false=>
  simp only[cond_false,Bool.false_or,CP.mk.injEq,true_and];cases h:(m==0)with
  |true=>rw[cond_true];exact eq_of_beq h
  |false=>rw[cond_false]
theorem uni_assoc(a b c:CP):uniC (uniC a b) c=uniC a (uniC b c):=by
 unfold uniC;simp only[Bool.or_assoc,CP.mk.injEq,true_and];cases h:(a.mo==0)with
 |true=>rw[cond_true,cond_true]
 |false=>rw[cond_false,cond_false,h,cond_false]
theorem uni_zero(c:CP):uniC c cp0=c:=by
 obtain⟨a1,a2,a3,a4,a5,a6,m⟩:=c;unfold uniC cp0;simp only[Bool.or_false,CP.mk.injEq,true_and];cases h:(m==0)with
 |true=>rw[cond_true];exact(eq_of_beq h).symm
 |false=>rw[cond_false]
theorem zero_uni(c:CP):uniC cp0 c=c:=by
 obtain⟨a1,a2,a3,a4,a5,a6,m⟩:=c;rfl
def linesU(NV NE:List UInt8→Int→Int):List (List UInt8)→CP→CP
 |[],c=>c
 |s::r,c=>linesU NV NE r (lineU NV NE (up s) c)
theorem lines_uni(NV NE:List UInt8→Int→Int):∀(l:List (List UInt8)) (c:CP),linesU NV NE l c=uniC c (linesU NV NE l cp0)
 |[],c=>(uni_zero c).symm
 |s::r,c=>by
  rw[linesU,linesU,lines_uni NV NE r (lineU NV NE (up s) c),lines_uni NV NE r (lineU NV NE (up s) cp0),line_uni NV NE (up s) c,uni_assoc]
theorem lines_app(NV NE:List UInt8→Int→Int):∀(l r:List (List UInt8)) (c:CP),linesU NV NE (l++r) c=linesU NV NE r (linesU NV NE l c)
 |[],_,_=>rfl
 |_::l,r,c=>lines_app NV NE l r _
theorem up_id{s:List UInt8}(h:s.all isUp=true):up s=s:=mapD_up greatF (fun c hc=>by unfold greatF;rw[decide_eq_false (by omega),Bool.false_and,cond_false]) s h
theorem said_one{NV NE:List UInt8→Int→Int}{w:List UInt8}{f:Bool→CP→CP}(hu:w.all isUp=true)(h:∀x,lineU NV NE w x=f true x)(h0:∀x,x=f false x)(b:Bool)(x:CP):linesU NV NE (bif b then[w]else[]) x=f b x:=by
 cases b with
 |true=>
  show lineU NV NE (up w) x=f true x;rw[up_id hu,h]
 |false=>exact h0 x
theorem said_pi{NV NE:List UInt8→Int→Int}(b:Bool)(x:CP):linesU NV NE (bif b then[wPI]else[]) x={x with pi:=x.pi||b}:=
 said_one (f:=fun b x=>{x with pi:=x.pi||b}) rfl (fun x=>by
  show setW wPI x=_;unfold setW;rw[show(wPI==wST)=false from rfl,show(wPI==wPI)=true from rfl,show(wPI==wRQ)=false from rfl,show(wPI==wDS)=false from rfl,show(wPI==wEB)=false from rfl,show(wPI==wSI)=false from rfl];simp only[Bool.or_false]) (fun x=>by simp only[Bool.or_false]) b x
theorem said_st{NV NE:List UInt8→Int→Int}(b:Bool)(x:CP):linesU NV NE (bif b then[wST]else[]) x={x with st:=x.st||b}:=
 said_one (f:=fun b x=>{x with st:=x.st||b}) rfl (fun x=>by
  show setW wST x=_;unfold setW;rw[show(wST==wST)=true from rfl,show(wST==wPI)=false from rfl,show(wST==wRQ)=false from rfl,show(wST==wDS)=false from rfl,show(wST==wEB)=false from rfl,show(wST==wSI)=false from rfl];simp only[Bool.or_false]) (fun x=>by simp only[Bool.or_false]) b x
theorem said_rq{NV NE:List UInt8→Int→Int}(b:Bool)(x:CP):linesU NV NE (bif b then[wRQ]else[]) x={x with rq:=x.rq||b}:=
 said_one (f:=fun b x=>{x with rq:=x.rq||b}) rfl (fun x=>by
  show setW wRQ x=_;unfold setW;rw[show(wRQ==wST)=false from rfl,show(wRQ==wPI)=false from rfl,show(wRQ==wRQ)=true from rfl,show(wRQ==wDS)=false from rfl,show(wRQ==wEB)=false from rfl,show(wRQ==wSI)=false from rfl];simp only[Bool.or_false]) (fun x=>by simp only[Bool.or_false]) b x
theorem said_ds{NV NE:List UInt8→Int→Int}(b:Bool)(x:CP):linesU NV NE (bif b then[wDS]else[]) x={x with ds:=x.ds||b}:=
 said_one (f:=fun b x=>{x with ds:=x.ds||b}) rfl (fun x=>by
  show setW wDS x=_;unfold setW;rw[show(wDS==wST)=false from rfl,show(wDS==wPI)=false from rfl,show(wDS==wRQ)=false from rfl,show(wDS==wDS)=true from rfl,show(wDS==wEB)=false from rfl,show(wDS==wSI)=false from rfl];simp only[Bool.or_false]) (fun x=>by simp only[Bool.or_false]) b x
theorem said_eb{NV NE:List UInt8→Int→Int}(b:Bool)(x:CP):linesU NV NE (bif b then[wEB]else[]) x={x with eb:=x.eb||b}:=
 said_one (f:=fun b x=>{x with eb:=x.eb||b}) rfl (fun x=>by
  show setW wEB x=_;unfold setW;rw[show(wEB==wST)=false from rfl,show(wEB==wPI)=false from rfl,show(wEB==wRQ)=false from rfl,show(wEB==wDS)=false from rfl,show(wEB==wEB)=true from rfl,show(wEB==wSI)=false from rfl];simp only[Bool.or_false]) (fun x=>by simp only[Bool.or_false]) b x
end Go.Vm
namespace Go.Proofs
open Go.Shelf
def Tryd.lays230_ren:Go.Shelf.Ren:=⟨fun|230=>37|197=>56|118=>57|165=>58|166=>59|168=>60|270=>61|167=>62|169=>63|260=>79|240=>80|241=>81|242=>82|276=>96|277=>97|278=>98|n=>n,fun|107=>62|9=>9|72=>90|0=>0|4=>4|3=>3|21=>21|105=>91|76=>71|5=>5|75=>70|70=>88|20=>20|37=>53|127=>105|119=>117|46=>39|139=>120|138=>119|164=>121|51=>73|80=>98|n=>n,fun|3=>2|4=>3|n=>n⟩
theorem Tryd.lays230:Go.Proofs.Lays.n230 Tryd.prog Tryd.lays230_ren:={
 mixed:=by kernel_rfl
 f118:=Tryd.func57.trans (congrArg some (by kernel_rfl))
 f165:=Tryd.func58.trans (congrArg some (by kernel_rfl))
 f166:=Tryd.func59.trans (congrArg some (by kernel_rfl))
 f167:=Tryd.func62.trans (congrArg some (by kernel_rfl))
 f168:=Tryd.func60.trans (congrArg some (by kernel_rfl))
 f169:=Tryd.func63.trans (congrArg some (by kernel_rfl))
 f197:=Tryd.func56.trans (congrArg some (by kernel_rfl))
 f230:=Tryd.func37.trans (congrArg some (by kernel_rfl))
 f240:=Tryd.func80.trans (congrArg some (by kernel_rfl))
 f241:=Tryd.func81.trans (congrArg some (by kernel_rfl))
 f242:=Tryd.func82.trans (congrArg some (by kernel_rfl))
 f260:=Tryd.func79.trans (congrArg some (by kernel_rfl))
 f270:=Tryd.func61.trans (congrArg some (by kernel_rfl))
 f276:=Tryd.func96.trans (congrArg some (by kernel_rfl))
 f277:=Tryd.func97.trans (congrArg some (by kernel_rfl))
 f278:=Tryd.func98.trans (congrArg some (by kernel_rfl))
 t0:=Tryd.underlying0
 a0:=Tryd.isAgg0
 z0:=Tryd.sizeOf0
 v0:=Tryd.zeroValue0
 t3:=Tryd.underlying3
 a3:=Tryd.isAgg3
 z3:=Tryd.sizeOf3
 v3:=Tryd.zeroValue3
 t4:=Tryd.underlying4
 a4:=Tryd.isAgg4
 z4:=Tryd.sizeOf4
 v4:=Tryd.zeroValue4
 t5:=Tryd.underlying5
 a5:=Tryd.isAgg5
 z5:=Tryd.sizeOf5
 v5:=Tryd.zeroValue5
 t9:=Tryd.underlying9
 a9:=Tryd.isAgg9
 z9:=Tryd.sizeOf9
 v9:=Tryd.zeroValue9
 t20:=Tryd.underlying20
 a20:=Tryd.isAgg20
 z20:=Tryd.sizeOf20
 v20:=Tryd.zeroValue20
 t21:=Tryd.underlying21
 a21:=Tryd.isAgg21
 z21:=Tryd.sizeOf21
 v21:=Tryd.zeroValue21
 t37:=Tryd.underlying53
 a37:=Tryd.isAgg53
 z37:=Tryd.sizeOf53
 v37:=Tryd.zeroValue53
 t46:=Tryd.underlying39
 a46:=Tryd.isAgg39
 z46:=Tryd.sizeOf39
 v46:=Tryd.zeroValue39
 t51:=Tryd.underlying73
 a51:=Tryd.isAgg73
 z51:=Tryd.sizeOf73
 v51:=Tryd.zeroValue73
 t70:=Tryd.underlying88
 a70:=Tryd.isAgg88
 z70:=Tryd.sizeOf88
 v70:=Tryd.zeroValue88
 t72:=Tryd.underlying90
 a72:=Tryd.isAgg90
 z72:=Tryd.sizeOf90
 v72:=Tryd.zeroValue90
 t75:=Tryd.underlying70
 a75:=Tryd.isAgg70
 z75:=Tryd.sizeOf70
 v75:=Tryd.zeroValue70
 t76:=Tryd.underlying71
 a76:=Tryd.isAgg71
 z76:=Tryd.sizeOf71
 v76:=Tryd.zeroValue71
 t105:=Tryd.underlying91
 a105:=Tryd.isAgg91
 z105:=Tryd.sizeOf91
 v105:=Tryd.zeroValue91
 t107:=Tryd.underlying62
 a107:=Tryd.isAgg62
 z107:=Tryd.sizeOf62
 v107:=Tryd.zeroValue62
 t119:=Tryd.underlying117
 a119:=Tryd.isAgg117
 z119:=Tryd.sizeOf117
 t127:=Tryd.underlying105
 a127:=Tryd.isAgg105
 z127:=Tryd.sizeOf105
 v127:=Tryd.zeroValue105
 t138:=Tryd.underlying119
 a138:=Tryd.isAgg119
 z138:=Tryd.sizeOf119
 v138:=Tryd.zeroValue119
 t139:=Tryd.underlying120
 a139:=Tryd.isAgg120
 z139:=Tryd.sizeOf120
 v139:=Tryd.zeroValue120
 t164:=Tryd.underlying121
 a164:=Tryd.isAgg121
 z164:=Tryd.sizeOf121
 v164:=Tryd.zeroValue121
 g3:=by kernel_rfl
 g4:=by kernel_rfl}
theorem Tryd.Builder_Extra_230:Builder.Extra Tryd.prog Tryd.lays230_ren:={
 sizeBuilder:=by kernel_rfl
 liesBuilder:=by kernel_rfl
 t5:=Tryd.underlying5
 a5:=Tryd.isAgg5
 z5:=Tryd.sizeOf5
 v5:=Tryd.zeroValue5
 infoByte:=by kernel_rfl
 cellsByte:=by kernel_rfl
 sizeByte:=by kernel_rfl
 neB5:=by decide}
open Go.RowKit Go.Lib in
theorem Tryd.strings_Map_runes(g:Nat)(lb:Array Value)(eg:∀args w,(callFunc g args).run Tryd.prog w=.ok (.enter g args) w)(f:Int→Int)(s:ByteArray)(w:World)(hs:s.size<35184372088832)(hf:MapAtRunes Tryd.prog g lb f w)(hnn:∀x:Nat,x≤1114111→0≤f x∧f x≤2147483647)(hT:Lib.Utf8Tabs 2 3 w):
 Calls Tryd.prog 37 #[.func (.func g) #[] lb,.string s] w fun e w'=>e=.returned (.string ⟨(Lib.mapD f s.data.toList).toArray⟩)∧Below w.heap.size w w':=Any.strings_Map_runes Tryd.lays230 Tryd.Builder_Extra_230 g lb eg f s w hs hf hnn hT
end Go.Proofs
namespace Go.Proofs.YtmcdajbfomngcaaDoor
open Go Go.Vm Go.RowKit
set_option linter.unusedSectionVars false
variable [Φ:Frz]
set_option linter.unusedVariables false
theorem great_enter:∀args w,(callFunc 38 args).run Tryd.prog w=.ok (.enter 38 args) w:=enters_of Tryd.func38 (by kernel_rfl) rfl
theorem great_gives(w:World):Go.Proofs.MapAtRunes Tryd.prog 38 #[] greatF w:=by
 intro W x hx _;show Calls Tryd.prog 38 #[.int .i32 (x:Int)] W _;by_cases h1:(97:Int)≤(x:Int)
 ·by_cases h2:(x:Int)≤122
  ·have e:greatF x=(x:Int)-97+65:=by
    unfold greatF;rw[decide_eq_true h1,decide_eq_true h2];simp only[Bool.and_self,cond_true];omega
   rw[e]
   go_enter Tryd.func38,Tryd.ntmps38
   go_wp2
   all_goals (go_ret;exact⟨rfl,0,rfl⟩)
  ·have e:greatF x=x:=by
    unfold greatF;rw[decide_eq_true h1,decide_eq_false h2];rfl
   rw[e]
   go_enter Tryd.func38,Tryd.ntmps38
   go_wp2
   all_goals (go_ret;exact⟨rfl,0,rfl⟩)
 ·have e:greatF x=x:=by
   unfold greatF;rw[decide_eq_false h1];rfl
  rw[e]
  go_enter Tryd.func38,Tryd.ntmps38
  go_wp2
  all_goals (go_ret;exact⟨rfl,0,rfl⟩)
theorem mapOk:MapRunesOk Tryd.prog 37 38 greatF 2 3:=fun s w h1 h2=>
 Tryd.strings_Map_runes 38 #[] great_enter greatF s w h1 (great_gives w) (fun x hx=>by unfold greatF;cases h:(decide (97≤(x:Int))&&decide ((x:Int)≤122))<;>simp at h ⊢<;>omega) h2
theorem map_known{s r:List UInt8}(h:(Nat.ble s.length 281474976710&&eqS (Lib.mapD greatF s) r)=true):EntFOk Tryd.prog ⟨37,[.func (.func 38) [] [],.str s],[],.str r,[]⟩:=
 map_ent mapOk ⟨rfl,rfl⟩ ⟨rfl,rfl⟩ rfl rfl h
theorem eqS_self:∀s:List UInt8,eqS s s=true
 |[]=>rfl
 |b::r=>by simp[eqS,eqS_self r]
def mapT:List V→Option (List (Bool×(V×St)))
 |[.func (.func 38) [] [],.str s]=>some [(okL s,(.str (up s),[]))]
 |_=>none
theorem map_ok(args:List V)(l:List (Bool×(V×St)))(o:V×St)(h:mapT args=some l)(ho:pickO l=some o):FnSat Tryd.prog 37 args [] (Is o):=by
 unfold mapT at h;split at h
 ·rename_i s;cases h;obtain⟨hk,rfl⟩:=pickO_one ho;have hl:=okL_le hk;exact map_known (s:=s) (r:=up s) (by rw[Bool.and_eq_true];exact⟨Nat.ble_eq_true_of_le (by omega),eqS_self (up s)⟩)
 ·cases h
end Go.Proofs.YtmcdajbfomngcaaDoor
namespace Go.Vm
end Go.Vm
namespace Go.Proofs.YtmcdajbfomngcaaDoor
open Go Go.Vm Go.RowKit
set_option linter.unusedVariables false
set_option maxRecDepth 100000
set_option linter.unusedSectionVars false
variable [Φ:Frz]
structure SP where
 s:List UInt8
 c:UInt8
 cs:List V
 N:Nat
 n:Nat
 i:Nat
def mapTG(OL:List UInt8→Bool)(UP:List UInt8→List UInt8):List V→Option (List (Bool×(V×St)))
 |[.func (.func 38) [] [],.str s]=>some [(OL s,(.str (UP s),[]))]
 |_=>none
def numTG(OL:List UInt8→Bool)(NV NE:List UInt8→Int→Int):List V→Option (List (Bool×(V×St)))
 |[.str s,.int .i64 most]=>some [(OL s&&isI64 most,(.tuple [.int .i64 (NV s most),.int .i64 (NE s most)],[]))]
 |_=>none
noncomputable def CO0(OL:List UInt8→Bool)(UP:List UInt8→List UInt8)(NV NE:List UInt8→Int→Int):Tab:=⟨addT (addT noT 37 (mapTG OL UP)) 27 (numTG OL NV NE),noL,noLks 9⟩
theorem CO0_ok:TabOk3 Tryd.prog (CO0 okL up numV numE):=⟨addT_ok (addT_ok noT_ok map_ok) cnum_ok,noL_ok,noLks_ok 9⟩
theorem co_round(OL:List UInt8→Bool)(UP:List UInt8→List UInt8)(NV NE:List UInt8→Int→Int)(a1 a2 a3 a4 a5 a6:Bool)(mo:Int)(y:Value)(m:Nat)(ds:List V)(i:Int)(R:Exit→List (Option V)→St→Prop):roundW Tryd.prog (CO0 OL UP NV NE) 9 20 (rounds 9) 22 250 [2,3,4,25,26,27] [.ptr 0 0,.ptr 1 0,.map 2,.lst y m ds,.int .i64 (m:Int),.int .i64 i] [.row [.bool false,.bool false,.bool false,.bool false,.bool false,.bool false,.int .i64 0] 34 7,.row [.bool a1,.bool a2,.bool a3,.bool a4,.bool a5,.bool a6,.int .i64 mo] 34 7,.mp [.str [83,84,65,82,84,84,76,83],.func (.func 55) [] [.ptr 3 0],.str [80,73,80,69,76,73,78,73,78,71],.func (.func 55) [] [.ptr 4 0],.str [82,69,81,85,73,82,69,84,76,83],.func (.func 55) [] [.ptr 5 0],.str [68,83,78],.func (.func 55) [] [.ptr 6 0],.str [56,66,73,84,77,73,77,69],.func (.func 55) [] [.ptr 7 0],.str [83,73,90,69],.func (.func 55) [] [.ptr 8 0]],.row [.ptr 1 0] 86 1,.row [.ptr 1 1] 86 1,.row [.ptr 1 2] 86 1,.row [.ptr 1 3] 86 1,.row [.ptr 1 4] 86 1,.row [.ptr 1 5] 86 1] R=
  (
 bif decide (i<(↑m:Int))then bif decide (0≤i)&&decide (i<(↑m:Int))then bif (i.toNat*1).blt ds.length then bif isStrV (ds.getD (i.toNat*1) (V.bool false))
 then bif OL (strOfV (ds.getD (i.toNat*1) (V.bool false)))then bif eqS (UP (strOfV (ds.getD (i.toNat*1) (V.bool false)))) [83,84,65,82,84,84,76,83]then bif
 decide ((↑(UP (strOfV (ds.getD (i.toNat*1) (V.bool false)))).length:Int)≥5)then bif true&&Nat.ble 5 (UP (strOfV (ds.getD (i.toNat*1) (V.bool false)))).length
 then bif !List.take 5 (List.drop 0 (UP (strOfV (ds.getD (i.toNat*1) (V.bool false)))))==[83,73,90,69,32]then R Exit.normal [some (V.ptr 0 0),some (V.ptr 1 0),
 some (V.map 2),some (V.lst y m ds),some (V.int IntKind.i64 (↑m:Int)),some (V.int IntKind.i64 (IntKind.i64.wrap (i+1)))] [Blk.row [V.bool false,V.bool false,
 V.bool false,V.bool false,V.bool false,V.bool false,V.int IntKind.i64 0] 34 7,Blk.row [V.bool true,V.bool a2,V.bool a3,V.bool a4,V.bool a5,V.bool a6,V.int
 IntKind.i64 mo] 34 7,Blk.mp [V.str [83,84,65,82,84,84,76,83],V.func (Fn.func 55) [] [V.ptr 3 0],V.str [80,73,80,69,76,73,78,73,78,71],V.func (Fn.func
 55) [] [V.ptr 4 0],V.str [82,69,81,85,73,82,69,84,76,83],V.func (Fn.func 55) [] [V.ptr 5 0],V.str [68,83,78],V.func (Fn.func 55) [] [V.ptr 6 0],V.str [56,
 66,73,84,77,73,77,69],V.func (Fn.func 55) [] [V.ptr 7 0],V.str [83,73,90,69],V.func (Fn.func 55) [] [V.ptr 8 0]],Blk.row [V.ptr 1 0] 86 1,Blk.row [V.ptr 1
 1] 86 1,Blk.row [V.ptr 1 2] 86 1,Blk.row [V.ptr 1 3] 86 1,Blk.row [V.ptr 1 4] 86 1,Blk.row [V.ptr 1 5] 86 1]else bif Nat.ble 5 (UP (strOfV (ds.getD (i.toNat*1)
 (V.bool false)))).length&&(UP (strOfV (ds.getD (i.toNat*1) (V.bool false)))).length.ble (UP (strOfV (ds.getD (i.toNat*1) (V.bool false)))).length then bif OL
 (List.take ((UP (strOfV (ds.getD (i.toNat*1) (V.bool false)))).length-5) (List.drop 5 (UP (strOfV (ds.getD (i.toNat*1) (V.bool false))))))&&true then bif NE
 (List.take ((UP (strOfV (ds.getD (i.toNat*1) (V.bool false)))).length-5) (List.drop 5 (UP (strOfV (ds.getD (i.toNat*1) (V.bool false)))))) 1099511627776==4 then R
 Exit.normal [some (V.ptr 0 0),some (V.ptr 1 0),some (V.map 2),some (V.lst y m ds),some (V.int IntKind.i64 (↑m:Int)),some (V.int IntKind.i64 (IntKind.i64.wrap (i+
 1)))] [Blk.row [V.bool false,V.bool false,V.bool false,V.bool false,V.bool false,V.bool false,V.int IntKind.i64 0] 34 7,Blk.row [V.bool true,V.bool a2,V.bool a3,
 V.bool a4,V.bool a5,V.bool a6,V.int IntKind.i64 mo] 34 7,Blk.mp [V.str [83,84,65,82,84,84,76,83],V.func (Fn.func 55) [] [V.ptr 3 0],V.str [80,73,80,69,
 76,73,78,73,78,71],V.func (Fn.func 55) [] [V.ptr 4 0],V.str [82,69,81,85,73,82,69,84,76,83],V.func (Fn.func 55) [] [V.ptr 5 0],V.str [68,83,78],
 V.func (Fn.func 55) [] [V.ptr 6 0],V.str [56,66,73,84,77,73,77,69],V.func (Fn.func 55) [] [V.ptr 7 0],V.str [83,73,90,69],V.func (Fn.func 55) [] [V.ptr 8
 0]],Blk.row [V.ptr 1 0] 86 1,Blk.row [V.ptr 1 1] 86 1,Blk.row [V.ptr 1 2] 86 1,Blk.row [V.ptr 1 3] 86 1,Blk.row [V.ptr 1 4] 86 1,Blk.row [V.ptr 1 5] 86 1]else bif
 mo==0 then R Exit.normal [some (V.ptr 0 0),some (V.ptr 1 0),some (V.map 2),some (V.lst y m ds),some (V.int IntKind.i64 (↑m:Int)),some (V.int IntKind.i64
 (IntKind.i64.wrap (i+1)))] [Blk.row [V.bool false,V.bool false,V.bool false,V.bool false,V.bool false,V.bool false,V.int IntKind.i64 0] 34 7,Blk.row [V.bool
 true,V.bool a2,V.bool a3,V.bool a4,V.bool a5,V.bool true,V.int IntKind.i64 (NV (List.take ((UP (strOfV (ds.getD (i.toNat*1) (V.bool false)))).length-5)
 (List.drop 5 (UP (strOfV (ds.getD (i.toNat*1) (V.bool false)))))) 1099511627776)] 34 7,Blk.mp [V.str [83,84,65,82,84,84,76,83],V.func (Fn.func 55) [] [V.ptr 3
 0],V.str [80,73,80,69,76,73,78,73,78,71],V.func (Fn.func 55) [] [V.ptr 4 0],V.str [82,69,81,85,73,82,69,84,76,83],V.func (Fn.func 55) [] [V.ptr 5
 0],V.str [68,83,78],V.func (Fn.func 55) [] [V.ptr 6 0],V.str [56,66,73,84,77,73,77,69],V.func (Fn.func 55) [] [V.ptr 7 0],V.str [83,73,90,69],V.func
 (Fn.func 55) [] [V.ptr 8 0]],Blk.row [V.ptr 1 0] 86 1,Blk.row [V.ptr 1 1] 86 1,Blk.row [V.ptr 1 2] 86 1,Blk.row [V.ptr 1 3] 86 1,Blk.row [V.ptr 1 4] 86 1,Blk.row
 [V.ptr 1 5] 86 1]else R Exit.normal [some (V.ptr 0 0),some (V.ptr 1 0),some (V.map 2),some (V.lst y m ds),some (V.int IntKind.i64 (↑m:Int)),some (V.int
 IntKind.i64 (IntKind.i64.wrap (i+1)))] [Blk.row [V.bool false,V.bool false,V.bool false,V.bool false,V.bool false,V.bool false,V.int IntKind.i64 0] 34 7,Blk.row
 [V.bool true,V.bool a2,V.bool a3,V.bool a4,V.bool a5,V.bool true,V.int IntKind.i64 mo] 34 7,Blk.mp [V.str [83,84,65,82,84,84,76,83],V.func (Fn.func 55) []
 [V.ptr 3 0],V.str [80,73,80,69,76,73,78,73,78,71],V.func (Fn.func 55) [] [V.ptr 4 0],V.str [82,69,81,85,73,82,69,84,76,83],V.func (Fn.func 55) []
 [V.ptr 5 0],V.str [68,83,78],V.func (Fn.func 55) [] [V.ptr 6 0],V.str [56,66,73,84,77,73,77,69],V.func (Fn.func 55) [] [V.ptr 7 0],V.str [83,73,90,69],
 V.func (Fn.func 55) [] [V.ptr 8 0]],Blk.row [V.ptr 1 0] 86 1,Blk.row [V.ptr 1 1] 86 1,Blk.row [V.ptr 1 2] 86 1,Blk.row [V.ptr 1 3] 86 1,Blk.row [V.ptr 1 4] 86 1,
 Blk.row [V.ptr 1 5] 86 1]else False else False else False else R Exit.normal [some (V.ptr 0 0),some (V.ptr 1 0),some (V.map 2),some (V.lst y m ds),some (V.int
 IntKind.i64 (↑m:Int)),some (V.int IntKind.i64 (IntKind.i64.wrap (i+1)))] [Blk.row [V.bool false,V.bool false,V.bool false,V.bool false,V.bool false,V.bool
 false,V.int IntKind.i64 0] 34 7,Blk.row [V.bool true,V.bool a2,V.bool a3,V.bool a4,V.bool a5,V.bool a6,V.int IntKind.i64 mo] 34 7,Blk.mp [V.str [83,84,65,82,
 84,84,76,83],V.func (Fn.func 55) [] [V.ptr 3 0],V.str [80,73,80,69,76,73,78,73,78,71],V.func (Fn.func 55) [] [V.ptr 4 0],V.str [82,69,81,85,73,82,
 69,84,76,83],V.func (Fn.func 55) [] [V.ptr 5 0],V.str [68,83,78],V.func (Fn.func 55) [] [V.ptr 6 0],V.str [56,66,73,84,77,73,77,69],V.func (Fn.func 55)
 [] [V.ptr 7 0],V.str [83,73,90,69],V.func (Fn.func 55) [] [V.ptr 8 0]],Blk.row [V.ptr 1 0] 86 1,Blk.row [V.ptr 1 1] 86 1,Blk.row [V.ptr 1 2] 86 1,Blk.row [V.ptr
 1 3] 86 1,Blk.row [V.ptr 1 4] 86 1,Blk.row [V.ptr 1 5] 86 1]else bif eqS (UP (strOfV (ds.getD (i.toNat*1) (V.bool false)))) [80,73,80,69,76,73,78,73,78,71]
 then bif decide ((↑(UP (strOfV (ds.getD (i.toNat*1) (V.bool false)))).length:Int)≥5)then bif true&&Nat.ble 5 (UP (strOfV (ds.getD (i.toNat*1) (V.bool
 false)))).length then bif !List.take 5 (List.drop 0 (UP (strOfV (ds.getD (i.toNat*1) (V.bool false)))))==[83,73,90,69,32]then R Exit.normal [some (V.ptr 0 0),
 some (V.ptr 1 0),some (V.map 2),some (V.lst y m ds),some (V.int IntKind.i64 (↑m:Int)),some (V.int IntKind.i64 (IntKind.i64.wrap (i+1)))] [Blk.row [V.bool false,
 V.bool false,V.bool false,V.bool false,V.bool false,V.bool false,V.int IntKind.i64 0] 34 7,Blk.row [V.bool a1,V.bool true,V.bool a3,V.bool a4,V.bool a5,V.bool
 a6,V.int IntKind.i64 mo] 34 7,Blk.mp [V.str [83,84,65,82,84,84,76,83],V.func (Fn.func 55) [] [V.ptr 3 0],V.str [80,73,80,69,76,73,78,73,78,71],V.func
 (Fn.func 55) [] [V.ptr 4 0],V.str [82,69,81,85,73,82,69,84,76,83],V.func (Fn.func 55) [] [V.ptr 5 0],V.str [68,83,78],V.func (Fn.func 55) [] [V.ptr 6 0],
 V.str [56,66,73,84,77,73,77,69],V.func (Fn.func 55) [] [V.ptr 7 0],V.str [83,73,90,69],V.func (Fn.func 55) [] [V.ptr 8 0]],Blk.row [V.ptr 1 0] 86 1,Blk.row
 [V.ptr 1 1] 86 1,Blk.row [V.ptr 1 2] 86 1,Blk.row [V.ptr 1 3] 86 1,Blk.row [V.ptr 1 4] 86 1,Blk.row [V.ptr 1 5] 86 1]else bif Nat.ble 5 (UP (strOfV (ds.getD (i.toNat
 *1) (V.bool false)))).length&&(UP (strOfV (ds.getD (i.toNat*1) (V.bool false)))).length.ble (UP (strOfV (ds.getD (i.toNat*1) (V.bool false)))).length then bif OL
 (List.take ((UP (strOfV (ds.getD (i.toNat*1) (V.bool false)))).length-5) (List.drop 5 (UP (strOfV (ds.getD (i.toNat*1) (V.bool false))))))&&true then bif NE
 (List.take ((UP (strOfV (ds.getD (i.toNat*1) (V.bool false)))).length-5) (List.drop 5 (UP (strOfV (ds.getD (i.toNat*1) (V.bool false)))))) 1099511627776==4 then R
 Exit.normal [some (V.ptr 0 0),some (V.ptr 1 0),some (V.map 2),some (V.lst y m ds),some (V.int IntKind.i64 (↑m:Int)),some (V.int IntKind.i64 (IntKind.i64.wrap (i+
 1)))] [Blk.row [V.bool false,V.bool false,V.bool false,V.bool false,V.bool false,V.bool false,V.int IntKind.i64 0] 34 7,Blk.row [V.bool a1,V.bool true,V.bool a3,
 V.bool a4,V.bool a5,V.bool a6,V.int IntKind.i64 mo] 34 7,Blk.mp [V.str [83,84,65,82,84,84,76,83],V.func (Fn.func 55) [] [V.ptr 3 0],V.str [80,73,80,69,
 76,73,78,73,78,71],V.func (Fn.func 55) [] [V.ptr 4 0],V.str [82,69,81,85,73,82,69,84,76,83],V.func (Fn.func 55) [] [V.ptr 5 0],V.str [68,83,78],
 V.func (Fn.func 55) [] [V.ptr 6 0],V.str [56,66,73,84,77,73,77,69],V.func (Fn.func 55) [] [V.ptr 7 0],V.str [83,73,90,69],V.func (Fn.func 55) [] [V.ptr 8
 0]],Blk.row [V.ptr 1 0] 86 1,Blk.row [V.ptr 1 1] 86 1,Blk.row [V.ptr 1 2] 86 1,Blk.row [V.ptr 1 3] 86 1,Blk.row [V.ptr 1 4] 86 1,Blk.row [V.ptr 1 5] 86 1]else bif
 mo==0 then R Exit.normal [some (V.ptr 0 0),some (V.ptr 1 0),some (V.map 2),some (V.lst y m ds),some (V.int IntKind.i64 (↑m:Int)),some (V.int IntKind.i64
 (IntKind.i64.wrap (i+1)))] [Blk.row [V.bool false,V.bool false,V.bool false,V.bool false,V.bool false,V.bool false,V.int IntKind.i64 0] 34 7,Blk.row [V.bool a1,
 V.bool true,V.bool a3,V.bool a4,V.bool a5,V.bool true,V.int IntKind.i64 (NV (List.take ((UP (strOfV (ds.getD (i.toNat*1) (V.bool false)))).length-5) (List.drop 5
 (UP (strOfV (ds.getD (i.toNat*1) (V.bool false)))))) 1099511627776)] 34 7,Blk.mp [V.str [83,84,65,82,84,84,76,83],V.func (Fn.func 55) [] [V.ptr 3 0],V.str
 [80,73,80,69,76,73,78,73,78,71],V.func (Fn.func 55) [] [V.ptr 4 0],V.str [82,69,81,85,73,82,69,84,76,83],V.func (Fn.func 55) [] [V.ptr 5 0],V.str
 [68,83,78],V.func (Fn.func 55) [] [V.ptr 6 0],V.str [56,66,73,84,77,73,77,69],V.func (Fn.func 55) [] [V.ptr 7 0],V.str [83,73,90,69],V.func (Fn.func 55)
 [] [V.ptr 8 0]],Blk.row [V.ptr 1 0] 86 1,Blk.row [V.ptr 1 1] 86 1,Blk.row [V.ptr 1 2] 86 1,Blk.row [V.ptr 1 3] 86 1,Blk.row [V.ptr 1 4] 86 1,Blk.row [V.ptr 1 5] 86
 1]else R Exit.normal [some (V.ptr 0 0),some (V.ptr 1 0),some (V.map 2),some (V.lst y m ds),some (V.int IntKind.i64 (↑m:Int)),some (V.int IntKind.i64
 (IntKind.i64.wrap (i+1)))] [Blk.row [V.bool false,V.bool false,V.bool false,V.bool false,V.bool false,V.bool false,V.int IntKind.i64 0] 34 7,Blk.row [V.bool a1,
 V.bool true,V.bool a3,V.bool a4,V.bool a5,V.bool true,V.int IntKind.i64 mo] 34 7,Blk.mp [V.str [83,84,65,82,84,84,76,83],V.func (Fn.func 55) [] [V.ptr 3 0],
 V.str [80,73,80,69,76,73,78,73,78,71],V.func (Fn.func 55) [] [V.ptr 4 0],V.str [82,69,81,85,73,82,69,84,76,83],V.func (Fn.func 55) [] [V.ptr 5 0],
 V.str [68,83,78],V.func (Fn.func 55) [] [V.ptr 6 0],V.str [56,66,73,84,77,73,77,69],V.func (Fn.func 55) [] [V.ptr 7 0],V.str [83,73,90,69],V.func
 (Fn.func 55) [] [V.ptr 8 0]],Blk.row [V.ptr 1 0] 86 1,Blk.row [V.ptr 1 1] 86 1,Blk.row [V.ptr 1 2] 86 1,Blk.row [V.ptr 1 3] 86 1,Blk.row [V.ptr 1 4] 86 1,Blk.row
 [V.ptr 1 5] 86 1]else False else False else False else R Exit.normal [some (V.ptr 0 0),some (V.ptr 1 0),some (V.map 2),some (V.lst y m ds),some (V.int IntKind.i64
 (↑m:Int)),some (V.int IntKind.i64 (IntKind.i64.wrap (i+1)))] [Blk.row [V.bool false,V.bool false,V.bool false,V.bool false,V.bool false,V.bool false,V.int
 IntKind.i64 0] 34 7,Blk.row [V.bool a1,V.bool true,V.bool a3,V.bool a4,V.bool a5,V.bool a6,V.int IntKind.i64 mo] 34 7,Blk.mp [V.str [83,84,65,82,84,84,76,
 83],V.func (Fn.func 55) [] [V.ptr 3 0],V.str [80,73,80,69,76,73,78,73,78,71],V.func (Fn.func 55) [] [V.ptr 4 0],V.str [82,69,81,85,73,82,69,84,76,
 83],V.func (Fn.func 55) [] [V.ptr 5 0],V.str [68,83,78],V.func (Fn.func 55) [] [V.ptr 6 0],V.str [56,66,73,84,77,73,77,69],V.func (Fn.func 55) [] [V.ptr 7
 0],V.str [83,73,90,69],V.func (Fn.func 55) [] [V.ptr 8 0]],Blk.row [V.ptr 1 0] 86 1,Blk.row [V.ptr 1 1] 86 1,Blk.row [V.ptr 1 2] 86 1,Blk.row [V.ptr 1 3] 86 1,
 Blk.row [V.ptr 1 4] 86 1,Blk.row [V.ptr 1 5] 86 1]else bif eqS (UP (strOfV (ds.getD (i.toNat*1) (V.bool false)))) [82,69,81,85,73,82,69,84,76,83]then bif
 decide ((↑(UP (strOfV (ds.getD (i.toNat*1) (V.bool false)))).length:Int)≥5)then bif true&&Nat.ble 5 (UP (strOfV (ds.getD (i.toNat*1) (V.bool false)))).length
 then bif !List.take 5 (List.drop 0 (UP (strOfV (ds.getD (i.toNat*1) (V.bool false)))))==[83,73,90,69,32]then R Exit.normal [some (V.ptr 0 0),some (V.ptr 1 0),
 some (V.map 2),some (V.lst y m ds),some (V.int IntKind.i64 (↑m:Int)),some (V.int IntKind.i64 (IntKind.i64.wrap (i+1)))] [Blk.row [V.bool false,V.bool false,
 V.bool false,V.bool false,V.bool false,V.bool false,V.int IntKind.i64 0] 34 7,Blk.row [V.bool a1,V.bool a2,V.bool true,V.bool a4,V.bool a5,V.bool a6,V.int
 IntKind.i64 mo] 34 7,Blk.mp [V.str [83,84,65,82,84,84,76,83],V.func (Fn.func 55) [] [V.ptr 3 0],V.str [80,73,80,69,76,73,78,73,78,71],V.func (Fn.func
 55) [] [V.ptr 4 0],V.str [82,69,81,85,73,82,69,84,76,83],V.func (Fn.func 55) [] [V.ptr 5 0],V.str [68,83,78],V.func (Fn.func 55) [] [V.ptr 6 0],V.str [56,
 66,73,84,77,73,77,69],V.func (Fn.func 55) [] [V.ptr 7 0],V.str [83,73,90,69],V.func (Fn.func 55) [] [V.ptr 8 0]],Blk.row [V.ptr 1 0] 86 1,Blk.row [V.ptr 1
 1] 86 1,Blk.row [V.ptr 1 2] 86 1,Blk.row [V.ptr 1 3] 86 1,Blk.row [V.ptr 1 4] 86 1,Blk.row [V.ptr 1 5] 86 1]else bif Nat.ble 5 (UP (strOfV (ds.getD (i.toNat*1)
 (V.bool false)))).length&&(UP (strOfV (ds.getD (i.toNat*1) (V.bool false)))).length.ble (UP (strOfV (ds.getD (i.toNat*1) (V.bool false)))).length then bif OL
 (List.take ((UP (strOfV (ds.getD (i.toNat*1) (V.bool false)))).length-5) (List.drop 5 (UP (strOfV (ds.getD (i.toNat*1) (V.bool false))))))&&true then bif NE
 (List.take ((UP (strOfV (ds.getD (i.toNat*1) (V.bool false)))).length-5) (List.drop 5 (UP (strOfV (ds.getD (i.toNat*1) (V.bool false)))))) 1099511627776==4 then R
 Exit.normal [some (V.ptr 0 0),some (V.ptr 1 0),some (V.map 2),some (V.lst y m ds),some (V.int IntKind.i64 (↑m:Int)),some (V.int IntKind.i64 (IntKind.i64.wrap (i+
 1)))] [Blk.row [V.bool false,V.bool false,V.bool false,V.bool false,V.bool false,V.bool false,V.int IntKind.i64 0] 34 7,Blk.row [V.bool a1,V.bool a2,V.bool true,
 V.bool a4,V.bool a5,V.bool a6,V.int IntKind.i64 mo] 34 7,Blk.mp [V.str [83,84,65,82,84,84,76,83],V.func (Fn.func 55) [] [V.ptr 3 0],V.str [80,73,80,69,
 76,73,78,73,78,71],V.func (Fn.func 55) [] [V.ptr 4 0],V.str [82,69,81,85,73,82,69,84,76,83],V.func (Fn.func 55) [] [V.ptr 5 0],V.str [68,83,78],
 V.func (Fn.func 55) [] [V.ptr 6 0],V.str [56,66,73,84,77,73,77,69],V.func (Fn.func 55) [] [V.ptr 7 0],V.str [83,73,90,69],V.func (Fn.func 55) [] [V.ptr 8
 0]],Blk.row [V.ptr 1 0] 86 1,Blk.row [V.ptr 1 1] 86 1,Blk.row [V.ptr 1 2] 86 1,Blk.row [V.ptr 1 3] 86 1,Blk.row [V.ptr 1 4] 86 1,Blk.row [V.ptr 1 5] 86 1]else bif
 mo==0 then R Exit.normal [some (V.ptr 0 0),some (V.ptr 1 0),some (V.map 2),some (V.lst y m ds),some (V.int IntKind.i64 (↑m:Int)),some (V.int IntKind.i64
 (IntKind.i64.wrap (i+1)))] [Blk.row [V.bool false,V.bool false,V.bool false,V.bool false,V.bool false,V.bool false,V.int IntKind.i64 0] 34 7,Blk.row [V.bool a1,
 V.bool a2,V.bool true,V.bool a4,V.bool a5,V.bool true,V.int IntKind.i64 (NV (List.take ((UP (strOfV (ds.getD (i.toNat*1) (V.bool false)))).length-5) (List.drop 5
 (UP (strOfV (ds.getD (i.toNat*1) (V.bool false)))))) 1099511627776)] 34 7,Blk.mp [V.str [83,84,65,82,84,84,76,83],V.func (Fn.func 55) [] [V.ptr 3 0],V.str
 [80,73,80,69,76,73,78,73,78,71],V.func (Fn.func 55) [] [V.ptr 4 0],V.str [82,69,81,85,73,82,69,84,76,83],V.func (Fn.func 55) [] [V.ptr 5 0],V.str
 [68,83,78],V.func (Fn.func 55) [] [V.ptr 6 0],V.str [56,66,73,84,77,73,77,69],V.func (Fn.func 55) [] [V.ptr 7 0],V.str [83,73,90,69],V.func (Fn.func 55)
 [] [V.ptr 8 0]],Blk.row [V.ptr 1 0] 86 1,Blk.row [V.ptr 1 1] 86 1,Blk.row [V.ptr 1 2] 86 1,Blk.row [V.ptr 1 3] 86 1,Blk.row [V.ptr 1 4] 86 1,Blk.row [V.ptr 1 5] 86
 1]else R Exit.normal [some (V.ptr 0 0),some (V.ptr 1 0),some (V.map 2),some (V.lst y m ds),some (V.int IntKind.i64 (↑m:Int)),some (V.int IntKind.i64
 (IntKind.i64.wrap (i+1)))] [Blk.row [V.bool false,V.bool false,V.bool false,V.bool false,V.bool false,V.bool false,V.int IntKind.i64 0] 34 7,Blk.row [V.bool a1,
 V.bool a2,V.bool true,V.bool a4,V.bool a5,V.bool true,V.int IntKind.i64 mo] 34 7,Blk.mp [V.str [83,84,65,82,84,84,76,83],V.func (Fn.func 55) [] [V.ptr 3 0],
 V.str [80,73,80,69,76,73,78,73,78,71],V.func (Fn.func 55) [] [V.ptr 4 0],V.str [82,69,81,85,73,82,69,84,76,83],V.func (Fn.func 55) [] [V.ptr 5 0],
 V.str [68,83,78],V.func (Fn.func 55) [] [V.ptr 6 0],V.str [56,66,73,84,77,73,77,69],V.func (Fn.func 55) [] [V.ptr 7 0],V.str [83,73,90,69],V.func
 (Fn.func 55) [] [V.ptr 8 0]],Blk.row [V.ptr 1 0] 86 1,Blk.row [V.ptr 1 1] 86 1,Blk.row [V.ptr 1 2] 86 1,Blk.row [V.ptr 1 3] 86 1,Blk.row [V.ptr 1 4] 86 1,Blk.row
 [V.ptr 1 5] 86 1]else False else False else False else R Exit.normal [some (V.ptr 0 0),some (V.ptr 1 0),some (V.map 2),some (V.lst y m ds),some (V.int IntKind.i64
 (↑m:Int)),some (V.int IntKind.i64 (IntKind.i64.wrap (i+1)))] [Blk.row [V.bool false,V.bool false,V.bool false,V.bool false,V.bool false,V.bool false,V.int
 IntKind.i64 0] 34 7,Blk.row [V.bool a1,V.bool a2,V.bool true,V.bool a4,V.bool a5,V.bool a6,V.int IntKind.i64 mo] 34 7,Blk.mp [V.str [83,84,65,82,84,84,76,
 83],V.func (Fn.func 55) [] [V.ptr 3 0],V.str [80,73,80,69,76,73,78,73,78,71],V.func (Fn.func 55) [] [V.ptr 4 0],V.str [82,69,81,85,73,82,69,84,76,
 83],V.func (Fn.func 55) [] [V.ptr 5 0],V.str [68,83,78],V.func (Fn.func 55) [] [V.ptr 6 0],V.str [56,66,73,84,77,73,77,69],V.func (Fn.func 55) [] [V.ptr 7
 0],V.str [83,73,90,69],V.func (Fn.func 55) [] [V.ptr 8 0]],Blk.row [V.ptr 1 0] 86 1,Blk.row [V.ptr 1 1] 86 1,Blk.row [V.ptr 1 2] 86 1,Blk.row [V.ptr 1 3] 86 1,
 Blk.row [V.ptr 1 4] 86 1,Blk.row [V.ptr 1 5] 86 1]else bif eqS (UP (strOfV (ds.getD (i.toNat*1) (V.bool false)))) [68,83,78]then bif decide ((↑(UP (strOfV (ds.getD
 (i.toNat*1) (V.bool false)))).length:Int)≥5)then bif true&&Nat.ble 5 (UP (strOfV (ds.getD (i.toNat*1) (V.bool false)))).length then bif !List.take 5 (List.drop
 0 (UP (strOfV (ds.getD (i.toNat*1) (V.bool false)))))==[83,73,90,69,32]then R Exit.normal [some (V.ptr 0 0),some (V.ptr 1 0),some (V.map 2),some (V.lst y m
 ds),some (V.int IntKind.i64 (↑m:Int)),some (V.int IntKind.i64 (IntKind.i64.wrap (i+1)))] [Blk.row [V.bool false,V.bool false,V.bool false,V.bool false,V.bool
 false,V.bool false,V.int IntKind.i64 0] 34 7,Blk.row [V.bool a1,V.bool a2,V.bool a3,V.bool true,V.bool a5,V.bool a6,V.int IntKind.i64 mo] 34 7,Blk.mp [V.str
 [83,84,65,82,84,84,76,83],V.func (Fn.func 55) [] [V.ptr 3 0],V.str [80,73,80,69,76,73,78,73,78,71],V.func (Fn.func 55) [] [V.ptr 4 0],V.str [82,69,
 81,85,73,82,69,84,76,83],V.func (Fn.func 55) [] [V.ptr 5 0],V.str [68,83,78],V.func (Fn.func 55) [] [V.ptr 6 0],V.str [56,66,73,84,77,73,77,69],
 V.func (Fn.func 55) [] [V.ptr 7 0],V.str [83,73,90,69],V.func (Fn.func 55) [] [V.ptr 8 0]],Blk.row [V.ptr 1 0] 86 1,Blk.row [V.ptr 1 1] 86 1,Blk.row [V.ptr 1 2]
 86 1,Blk.row [V.ptr 1 3] 86 1,Blk.row [V.ptr 1 4] 86 1,Blk.row [V.ptr 1 5] 86 1]else bif Nat.ble 5 (UP (strOfV (ds.getD (i.toNat*1) (V.bool false)))).length&&(UP
 (strOfV (ds.getD (i.toNat*1) (V.bool false)))).length.ble (UP (strOfV (ds.getD (i.toNat*1) (V.bool false)))).length then bif OL (List.take ((UP (strOfV (ds.getD
 (i.toNat*1) (V.bool false)))).length-5) (List.drop 5 (UP (strOfV (ds.getD (i.toNat*1) (V.bool false))))))&&true then bif NE (List.take ((UP (strOfV (ds.getD
 (i.toNat*1) (V.bool false)))).length-5) (List.drop 5 (UP (strOfV (ds.getD (i.toNat*1) (V.bool false)))))) 1099511627776==4 then R Exit.normal [some (V.ptr 0 0),
 some (V.ptr 1 0),some (V.map 2),some (V.lst y m ds),some (V.int IntKind.i64 (↑m:Int)),some (V.int IntKind.i64 (IntKind.i64.wrap (i+1)))] [Blk.row [V.bool false,
 V.bool false,V.bool false,V.bool false,V.bool false,V.bool false,V.int IntKind.i64 0] 34 7,Blk.row [V.bool a1,V.bool a2,V.bool a3,V.bool true,V.bool a5,V.bool
 a6,V.int IntKind.i64 mo] 34 7,Blk.mp [V.str [83,84,65,82,84,84,76,83],V.func (Fn.func 55) [] [V.ptr 3 0],V.str [80,73,80,69,76,73,78,73,78,71],V.func
 (Fn.func 55) [] [V.ptr 4 0],V.str [82,69,81,85,73,82,69,84,76,83],V.func (Fn.func 55) [] [V.ptr 5 0],V.str [68,83,78],V.func (Fn.func 55) [] [V.ptr 6 0],
 V.str [56,66,73,84,77,73,77,69],V.func (Fn.func 55) [] [V.ptr 7 0],V.str [83,73,90,69],V.func (Fn.func 55) [] [V.ptr 8 0]],Blk.row [V.ptr 1 0] 86 1,Blk.row
 [V.ptr 1 1] 86 1,Blk.row [V.ptr 1 2] 86 1,Blk.row [V.ptr 1 3] 86 1,Blk.row [V.ptr 1 4] 86 1,Blk.row [V.ptr 1 5] 86 1]else bif mo==0 then R Exit.normal [some (V.ptr
 0 0),some (V.ptr 1 0),some (V.map 2),some (V.lst y m ds),some (V.int IntKind.i64 (↑m:Int)),some (V.int IntKind.i64 (IntKind.i64.wrap (i+1)))] [Blk.row [V.bool
 false,V.bool false,V.bool false,V.bool false,V.bool false,V.bool false,V.int IntKind.i64 0] 34 7,Blk.row [V.bool a1,V.bool a2,V.bool a3,V.bool true,V.bool a5,
 V.bool true,V.int IntKind.i64 (NV (List.take ((UP (strOfV (ds.getD (i.toNat*1) (V.bool false)))).length-5) (List.drop 5 (UP (strOfV (ds.getD (i.toNat*1) (V.bool
 false)))))) 1099511627776)] 34 7,Blk.mp [V.str [83,84,65,82,84,84,76,83],V.func (Fn.func 55) [] [V.ptr 3 0],V.str [80,73,80,69,76,73,78,73,78,71],
 V.func (Fn.func 55) [] [V.ptr 4 0],V.str [82,69,81,85,73,82,69,84,76,83],V.func (Fn.func 55) [] [V.ptr 5 0],V.str [68,83,78],V.func (Fn.func 55) [] [V.ptr
 6 0],V.str [56,66,73,84,77,73,77,69],V.func (Fn.func 55) [] [V.ptr 7 0],V.str [83,73,90,69],V.func (Fn.func 55) [] [V.ptr 8 0]],Blk.row [V.ptr 1 0] 86 1,
 Blk.row [V.ptr 1 1] 86 1,Blk.row [V.ptr 1 2] 86 1,Blk.row [V.ptr 1 3] 86 1,Blk.row [V.ptr 1 4] 86 1,Blk.row [V.ptr 1 5] 86 1]else R Exit.normal [some (V.ptr 0 0),
 some (V.ptr 1 0),some (V.map 2),some (V.lst y m ds),some (V.int IntKind.i64 (↑m:Int)),some (V.int IntKind.i64 (IntKind.i64.wrap (i+1)))] [Blk.row [V.bool false,
 V.bool false,V.bool false,V.bool false,V.bool false,V.bool false,V.int IntKind.i64 0] 34 7,Blk.row [V.bool a1,V.bool a2,V.bool a3,V.bool true,V.bool a5,V.bool
 true,V.int IntKind.i64 mo] 34 7,Blk.mp [V.str [83,84,65,82,84,84,76,83],V.func (Fn.func 55) [] [V.ptr 3 0],V.str [80,73,80,69,76,73,78,73,78,71],
 V.func (Fn.func 55) [] [V.ptr 4 0],V.str [82,69,81,85,73,82,69,84,76,83],V.func (Fn.func 55) [] [V.ptr 5 0],V.str [68,83,78],V.func (Fn.func 55) [] [V.ptr
 6 0],V.str [56,66,73,84,77,73,77,69],V.func (Fn.func 55) [] [V.ptr 7 0],V.str [83,73,90,69],V.func (Fn.func 55) [] [V.ptr 8 0]],Blk.row [V.ptr 1 0] 86 1,
 Blk.row [V.ptr 1 1] 86 1,Blk.row [V.ptr 1 2] 86 1,Blk.row [V.ptr 1 3] 86 1,Blk.row [V.ptr 1 4] 86 1,Blk.row [V.ptr 1 5] 86 1]else False else False else False else R
 Exit.normal [some (V.ptr 0 0),some (V.ptr 1 0),some (V.map 2),some (V.lst y m ds),some (V.int IntKind.i64 (↑m:Int)),some (V.int IntKind.i64 (IntKind.i64.wrap (i+
 1)))] [Blk.row [V.bool false,V.bool false,V.bool false,V.bool false,V.bool false,V.bool false,V.int IntKind.i64 0] 34 7,Blk.row [V.bool a1,V.bool a2,V.bool a3,
 V.bool true,V.bool a5,V.bool a6,V.int IntKind.i64 mo] 34 7,Blk.mp [V.str [83,84,65,82,84,84,76,83],V.func (Fn.func 55) [] [V.ptr 3 0],V.str [80,73,80,69,
 76,73,78,73,78,71],V.func (Fn.func 55) [] [V.ptr 4 0],V.str [82,69,81,85,73,82,69,84,76,83],V.func (Fn.func 55) [] [V.ptr 5 0],V.str [68,83,78],
 V.func (Fn.func 55) [] [V.ptr 6 0],V.str [56,66,73,84,77,73,77,69],V.func (Fn.func 55) [] [V.ptr 7 0],V.str [83,73,90,69],V.func (Fn.func 55) [] [V.ptr 8
 0]],Blk.row [V.ptr 1 0] 86 1,Blk.row [V.ptr 1 1] 86 1,Blk.row [V.ptr 1 2] 86 1,Blk.row [V.ptr 1 3] 86 1,Blk.row [V.ptr 1 4] 86 1,Blk.row [V.ptr 1 5] 86 1]else bif
 eqS (UP (strOfV (ds.getD (i.toNat*1) (V.bool false)))) [56,66,73,84,77,73,77,69]then bif decide ((↑(UP (strOfV (ds.getD (i.toNat*1) (V.bool false)))).length:
 Int)≥5)then bif true&&Nat.ble 5 (UP (strOfV (ds.getD (i.toNat*1) (V.bool false)))).length then bif !List.take 5 (List.drop 0 (UP (strOfV (ds.getD (i.toNat*1)
 (V.bool false)))))==[83,73,90,69,32]then R Exit.normal [some (V.ptr 0 0),some (V.ptr 1 0),some (V.map 2),some (V.lst y m ds),some (V.int IntKind.i64 (↑m:
 Int)),some (V.int IntKind.i64 (IntKind.i64.wrap (i+1)))] [Blk.row [V.bool false,V.bool false,V.bool false,V.bool false,V.bool false,V.bool false,V.int
 IntKind.i64 0] 34 7,Blk.row [V.bool a1,V.bool a2,V.bool a3,V.bool a4,V.bool true,V.bool a6,V.int IntKind.i64 mo] 34 7,Blk.mp [V.str [83,84,65,82,84,84,76,
 83],V.func (Fn.func 55) [] [V.ptr 3 0],V.str [80,73,80,69,76,73,78,73,78,71],V.func (Fn.func 55) [] [V.ptr 4 0],V.str [82,69,81,85,73,82,69,84,76,
 83],V.func (Fn.func 55) [] [V.ptr 5 0],V.str [68,83,78],V.func (Fn.func 55) [] [V.ptr 6 0],V.str [56,66,73,84,77,73,77,69],V.func (Fn.func 55) [] [V.ptr 7
 0],V.str [83,73,90,69],V.func (Fn.func 55) [] [V.ptr 8 0]],Blk.row [V.ptr 1 0] 86 1,Blk.row [V.ptr 1 1] 86 1,Blk.row [V.ptr 1 2] 86 1,Blk.row [V.ptr 1 3] 86 1,
 Blk.row [V.ptr 1 4] 86 1,Blk.row [V.ptr 1 5] 86 1]else bif Nat.ble 5 (UP (strOfV (ds.getD (i.toNat*1) (V.bool false)))).length&&(UP (strOfV (ds.getD (i.toNat*1)
 (V.bool false)))).length.ble (UP (strOfV (ds.getD (i.toNat*1) (V.bool false)))).length then bif OL (List.take ((UP (strOfV (ds.getD (i.toNat*1) (V.bool
 false)))).length-5) (List.drop 5 (UP (strOfV (ds.getD (i.toNat*1) (V.bool false))))))&&true then bif NE (List.take ((UP (strOfV (ds.getD (i.toNat*1) (V.bool
 false)))).length-5) (List.drop 5 (UP (strOfV (ds.getD (i.toNat*1) (V.bool false)))))) 1099511627776==4 then R Exit.normal [some (V.ptr 0 0),some (V.ptr 1 0),some
 (V.map 2),some (V.lst y m ds),some (V.int IntKind.i64 (↑m:Int)),some (V.int IntKind.i64 (IntKind.i64.wrap (i+1)))] [Blk.row [V.bool false,V.bool false,V.bool
 false,V.bool false,V.bool false,V.bool false,V.int IntKind.i64 0] 34 7,Blk.row [V.bool a1,V.bool a2,V.bool a3,V.bool a4,V.bool true,V.bool a6,V.int IntKind.i64
 mo] 34 7,Blk.mp [V.str [83,84,65,82,84,84,76,83],V.func (Fn.func 55) [] [V.ptr 3 0],V.str [80,73,80,69,76,73,78,73,78,71],V.func (Fn.func 55) []
 [V.ptr 4 0],V.str [82,69,81,85,73,82,69,84,76,83],V.func (Fn.func 55) [] [V.ptr 5 0],V.str [68,83,78],V.func (Fn.func 55) [] [V.ptr 6 0],V.str [56,66,
 73,84,77,73,77,69],V.func (Fn.func 55) [] [V.ptr 7 0],V.str [83,73,90,69],V.func (Fn.func 55) [] [V.ptr 8 0]],Blk.row [V.ptr 1 0] 86 1,Blk.row [V.ptr 1 1] 86
 1,Blk.row [V.ptr 1 2] 86 1,Blk.row [V.ptr 1 3] 86 1,Blk.row [V.ptr 1 4] 86 1,Blk.row [V.ptr 1 5] 86 1]else bif mo==0 then R Exit.normal [some (V.ptr 0 0),some
 (V.ptr 1 0),some (V.map 2),some (V.lst y m ds),some (V.int IntKind.i64 (↑m:Int)),some (V.int IntKind.i64 (IntKind.i64.wrap (i+1)))] [Blk.row [V.bool false,V.bool
 false,V.bool false,V.bool false,V.bool false,V.bool false,V.int IntKind.i64 0] 34 7,Blk.row [V.bool a1,V.bool a2,V.bool a3,V.bool a4,V.bool true,V.bool true,
 V.int IntKind.i64 (NV (List.take ((UP (strOfV (ds.getD (i.toNat*1) (V.bool false)))).length-5) (List.drop 5 (UP (strOfV (ds.getD (i.toNat*1) (V.bool false))))))
 1099511627776)] 34 7,Blk.mp [V.str [83,84,65,82,84,84,76,83],V.func (Fn.func 55) [] [V.ptr 3 0],V.str [80,73,80,69,76,73,78,73,78,71],V.func (Fn.func
 55) [] [V.ptr 4 0],V.str [82,69,81,85,73,82,69,84,76,83],V.func (Fn.func 55) [] [V.ptr 5 0],V.str [68,83,78],V.func (Fn.func 55) [] [V.ptr 6 0],V.str [56,
 66,73,84,77,73,77,69],V.func (Fn.func 55) [] [V.ptr 7 0],V.str [83,73,90,69],V.func (Fn.func 55) [] [V.ptr 8 0]],Blk.row [V.ptr 1 0] 86 1,Blk.row [V.ptr 1
 1] 86 1,Blk.row [V.ptr 1 2] 86 1,Blk.row [V.ptr 1 3] 86 1,Blk.row [V.ptr 1 4] 86 1,Blk.row [V.ptr 1 5] 86 1]else R Exit.normal [some (V.ptr 0 0),some (V.ptr 1 0),
 some (V.map 2),some (V.lst y m ds),some (V.int IntKind.i64 (↑m:Int)),some (V.int IntKind.i64 (IntKind.i64.wrap (i+1)))] [Blk.row [V.bool false,V.bool false,
 V.bool false,V.bool false,V.bool false,V.bool false,V.int IntKind.i64 0] 34 7,Blk.row [V.bool a1,V.bool a2,V.bool a3,V.bool a4,V.bool true,V.bool true,V.int
 IntKind.i64 mo] 34 7,Blk.mp [V.str [83,84,65,82,84,84,76,83],V.func (Fn.func 55) [] [V.ptr 3 0],V.str [80,73,80,69,76,73,78,73,78,71],V.func (Fn.func
 55) [] [V.ptr 4 0],V.str [82,69,81,85,73,82,69,84,76,83],V.func (Fn.func 55) [] [V.ptr 5 0],V.str [68,83,78],V.func (Fn.func 55) [] [V.ptr 6 0],V.str [56,
 66,73,84,77,73,77,69],V.func (Fn.func 55) [] [V.ptr 7 0],V.str [83,73,90,69],V.func (Fn.func 55) [] [V.ptr 8 0]],Blk.row [V.ptr 1 0] 86 1,Blk.row [V.ptr 1
 1] 86 1,Blk.row [V.ptr 1 2] 86 1,Blk.row [V.ptr 1 3] 86 1,Blk.row [V.ptr 1 4] 86 1,Blk.row [V.ptr 1 5] 86 1]else False else False else False else R Exit.normal [some
 (V.ptr 0 0),some (V.ptr 1 0),some (V.map 2),some (V.lst y m ds),some (V.int IntKind.i64 (↑m:Int)),some (V.int IntKind.i64 (IntKind.i64.wrap (i+1)))] [Blk.row
 [V.bool false,V.bool false,V.bool false,V.bool false,V.bool false,V.bool false,V.int IntKind.i64 0] 34 7,Blk.row [V.bool a1,V.bool a2,V.bool a3,V.bool a4,
 V.bool true,V.bool a6,V.int IntKind.i64 mo] 34 7,Blk.mp [V.str [83,84,65,82,84,84,76,83],V.func (Fn.func 55) [] [V.ptr 3 0],V.str [80,73,80,69,76,73,78,
 73,78,71],V.func (Fn.func 55) [] [V.ptr 4 0],V.str [82,69,81,85,73,82,69,84,76,83],V.func (Fn.func 55) [] [V.ptr 5 0],V.str [68,83,78],V.func (Fn.func
 55) [] [V.ptr 6 0],V.str [56,66,73,84,77,73,77,69],V.func (Fn.func 55) [] [V.ptr 7 0],V.str [83,73,90,69],V.func (Fn.func 55) [] [V.ptr 8 0]],Blk.row
 [V.ptr 1 0] 86 1,Blk.row [V.ptr 1 1] 86 1,Blk.row [V.ptr 1 2] 86 1,Blk.row [V.ptr 1 3] 86 1,Blk.row [V.ptr 1 4] 86 1,Blk.row [V.ptr 1 5] 86 1]else bif eqS (UP
 (strOfV (ds.getD (i.toNat*1) (V.bool false)))) [83,73,90,69]then bif decide ((↑(UP (strOfV (ds.getD (i.toNat*1) (V.bool false)))).length:Int)≥5)then bif true
 &&Nat.ble 5 (UP (strOfV (ds.getD (i.toNat*1) (V.bool false)))).length then bif !List.take 5 (List.drop 0 (UP (strOfV (ds.getD (i.toNat*1) (V.bool false)))))==[83,
 73,90,69,32]then R Exit.normal [some (V.ptr 0 0),some (V.ptr 1 0),some (V.map 2),some (V.lst y m ds),some (V.int IntKind.i64 (↑m:Int)),some (V.int IntKind.i64
 (IntKind.i64.wrap (i+1)))] [Blk.row [V.bool false,V.bool false,V.bool false,V.bool false,V.bool false,V.bool false,V.int IntKind.i64 0] 34 7,Blk.row [V.bool a1,
 V.bool a2,V.bool a3,V.bool a4,V.bool a5,V.bool true,V.int IntKind.i64 mo] 34 7,Blk.mp [V.str [83,84,65,82,84,84,76,83],V.func (Fn.func 55) [] [V.ptr 3 0],
 V.str [80,73,80,69,76,73,78,73,78,71],V.func (Fn.func 55) [] [V.ptr 4 0],V.str [82,69,81,85,73,82,69,84,76,83],V.func (Fn.func 55) [] [V.ptr 5 0],
 V.str [68,83,78],V.func (Fn.func 55) [] [V.ptr 6 0],V.str [56,66,73,84,77,73,77,69],V.func (Fn.func 55) [] [V.ptr 7 0],V.str [83,73,90,69],V.func
 (Fn.func 55) [] [V.ptr 8 0]],Blk.row [V.ptr 1 0] 86 1,Blk.row [V.ptr 1 1] 86 1,Blk.row [V.ptr 1 2] 86 1,Blk.row [V.ptr 1 3] 86 1,Blk.row [V.ptr 1 4] 86 1,Blk.row
 [V.ptr 1 5] 86 1]else bif Nat.ble 5 (UP (strOfV (ds.getD (i.toNat*1) (V.bool false)))).length&&(UP (strOfV (ds.getD (i.toNat*1) (V.bool false)))).length.ble (UP
 (strOfV (ds.getD (i.toNat*1) (V.bool false)))).length then bif OL (List.take ((UP (strOfV (ds.getD (i.toNat*1) (V.bool false)))).length-5) (List.drop 5 (UP (strOfV
 (ds.getD (i.toNat*1) (V.bool false))))))&&true then bif NE (List.take ((UP (strOfV (ds.getD (i.toNat*1) (V.bool false)))).length-5) (List.drop 5 (UP (strOfV
 (ds.getD (i.toNat*1) (V.bool false)))))) 1099511627776==4 then R Exit.normal [some (V.ptr 0 0),some (V.ptr 1 0),some (V.map 2),some (V.lst y m ds),some (V.int
 IntKind.i64 (↑m:Int)),some (V.int IntKind.i64 (IntKind.i64.wrap (i+1)))] [Blk.row [V.bool false,V.bool false,V.bool false,V.bool false,V.bool false,V.bool
 false,V.int IntKind.i64 0] 34 7,Blk.row [V.bool a1,V.bool a2,V.bool a3,V.bool a4,V.bool a5,V.bool true,V.int IntKind.i64 mo] 34 7,Blk.mp [V.str [83,84,65,82,
 84,84,76,83],V.func (Fn.func 55) [] [V.ptr 3 0],V.str [80,73,80,69,76,73,78,73,78,71],V.func (Fn.func 55) [] [V.ptr 4 0],V.str [82,69,81,85,73,82,
 69,84,76,83],V.func (Fn.func 55) [] [V.ptr 5 0],V.str [68,83,78],V.func (Fn.func 55) [] [V.ptr 6 0],V.str [56,66,73,84,77,73,77,69],V.func (Fn.func 55)
 [] [V.ptr 7 0],V.str [83,73,90,69],V.func (Fn.func 55) [] [V.ptr 8 0]],Blk.row [V.ptr 1 0] 86 1,Blk.row [V.ptr 1 1] 86 1,Blk.row [V.ptr 1 2] 86 1,Blk.row [V.ptr
 1 3] 86 1,Blk.row [V.ptr 1 4] 86 1,Blk.row [V.ptr 1 5] 86 1]else bif mo==0 then R Exit.normal [some (V.ptr 0 0),some (V.ptr 1 0),some (V.map 2),some (V.lst y m
 ds),some (V.int IntKind.i64 (↑m:Int)),some (V.int IntKind.i64 (IntKind.i64.wrap (i+1)))] [Blk.row [V.bool false,V.bool false,V.bool false,V.bool false,V.bool
 false,V.bool false,V.int IntKind.i64 0] 34 7,Blk.row [V.bool a1,V.bool a2,V.bool a3,V.bool a4,V.bool a5,V.bool true,V.int IntKind.i64 (NV (List.take ((UP (strOfV
 (ds.getD (i.toNat*1) (V.bool false)))).length-5) (List.drop 5 (UP (strOfV (ds.getD (i.toNat*1) (V.bool false)))))) 1099511627776)] 34 7,Blk.mp [V.str [83,84,65,
 82,84,84,76,83],V.func (Fn.func 55) [] [V.ptr 3 0],V.str [80,73,80,69,76,73,78,73,78,71],V.func (Fn.func 55) [] [V.ptr 4 0],V.str [82,69,81,85,73,
 82,69,84,76,83],V.func (Fn.func 55) [] [V.ptr 5 0],V.str [68,83,78],V.func (Fn.func 55) [] [V.ptr 6 0],V.str [56,66,73,84,77,73,77,69],V.func (Fn.func
 55) [] [V.ptr 7 0],V.str [83,73,90,69],V.func (Fn.func 55) [] [V.ptr 8 0]],Blk.row [V.ptr 1 0] 86 1,Blk.row [V.ptr 1 1] 86 1,Blk.row [V.ptr 1 2] 86 1,Blk.row
 [V.ptr 1 3] 86 1,Blk.row [V.ptr 1 4] 86 1,Blk.row [V.ptr 1 5] 86 1]else R Exit.normal [some (V.ptr 0 0),some (V.ptr 1 0),some (V.map 2),some (V.lst y m ds),some
 (V.int IntKind.i64 (↑m:Int)),some (V.int IntKind.i64 (IntKind.i64.wrap (i+1)))] [Blk.row [V.bool false,V.bool false,V.bool false,V.bool false,V.bool false,
 V.bool false,V.int IntKind.i64 0] 34 7,Blk.row [V.bool a1,V.bool a2,V.bool a3,V.bool a4,V.bool a5,V.bool true,V.int IntKind.i64 mo] 34 7,Blk.mp [V.str [83,84,
 65,82,84,84,76,83],V.func (Fn.func 55) [] [V.ptr 3 0],V.str [80,73,80,69,76,73,78,73,78,71],V.func (Fn.func 55) [] [V.ptr 4 0],V.str [82,69,81,85,
 73,82,69,84,76,83],V.func (Fn.func 55) [] [V.ptr 5 0],V.str [68,83,78],V.func (Fn.func 55) [] [V.ptr 6 0],V.str [56,66,73,84,77,73,77,69],V.func
 (Fn.func 55) [] [V.ptr 7 0],V.str [83,73,90,69],V.func (Fn.func 55) [] [V.ptr 8 0]],Blk.row [V.ptr 1 0] 86 1,Blk.row [V.ptr 1 1] 86 1,Blk.row [V.ptr 1 2] 86 1,
 Blk.row [V.ptr 1 3] 86 1,Blk.row [V.ptr 1 4] 86 1,Blk.row [V.ptr 1 5] 86 1]else False else False else False else R Exit.normal [some (V.ptr 0 0),some (V.ptr 1 0),
 some (V.map 2),some (V.lst y m ds),some (V.int IntKind.i64 (↑m:Int)),some (V.int IntKind.i64 (IntKind.i64.wrap (i+1)))] [Blk.row [V.bool false,V.bool false,
 V.bool false,V.bool false,V.bool false,V.bool false,V.int IntKind.i64 0] 34 7,Blk.row [V.bool a1,V.bool a2,V.bool a3,V.bool a4,V.bool a5,V.bool true,V.int
 IntKind.i64 mo] 34 7,Blk.mp [V.str [83,84,65,82,84,84,76,83],V.func (Fn.func 55) [] [V.ptr 3 0],V.str [80,73,80,69,76,73,78,73,78,71],V.func (Fn.func
 55) [] [V.ptr 4 0],V.str [82,69,81,85,73,82,69,84,76,83],V.func (Fn.func 55) [] [V.ptr 5 0],V.str [68,83,78],V.func (Fn.func 55) [] [V.ptr 6 0],V.str [56,
 66,73,84,77,73,77,69],V.func (Fn.func 55) [] [V.ptr 7 0],V.str [83,73,90,69],V.func (Fn.func 55) [] [V.ptr 8 0]],Blk.row [V.ptr 1 0] 86 1,Blk.row [V.ptr 1
 1] 86 1,Blk.row [V.ptr 1 2] 86 1,Blk.row [V.ptr 1 3] 86 1,Blk.row [V.ptr 1 4] 86 1,Blk.row [V.ptr 1 5] 86 1]else bif decide ((↑(UP (strOfV (ds.getD (i.toNat*1)
 (V.bool false)))).length:Int)≥5)then bif true&&Nat.ble 5 (UP (strOfV (ds.getD (i.toNat*1) (V.bool false)))).length then bif !List.take 5 (List.drop 0 (UP (strOfV
 (ds.getD (i.toNat*1) (V.bool false)))))==[83,73,90,69,32]then R Exit.normal [some (V.ptr 0 0),some (V.ptr 1 0),some (V.map 2),some (V.lst y m ds),some (V.int
 IntKind.i64 (↑m:Int)),some (V.int IntKind.i64 (IntKind.i64.wrap (i+1)))] [Blk.row [V.bool false,V.bool false,V.bool false,V.bool false,V.bool false,V.bool
 false,V.int IntKind.i64 0] 34 7,Blk.row [V.bool a1,V.bool a2,V.bool a3,V.bool a4,V.bool a5,V.bool a6,V.int IntKind.i64 mo] 34 7,Blk.mp [V.str [83,84,65,82,
 84,84,76,83],V.func (Fn.func 55) [] [V.ptr 3 0],V.str [80,73,80,69,76,73,78,73,78,71],V.func (Fn.func 55) [] [V.ptr 4 0],V.str [82,69,81,85,73,82,
 69,84,76,83],V.func (Fn.func 55) [] [V.ptr 5 0],V.str [68,83,78],V.func (Fn.func 55) [] [V.ptr 6 0],V.str [56,66,73,84,77,73,77,69],V.func (Fn.func 55)
 [] [V.ptr 7 0],V.str [83,73,90,69],V.func (Fn.func 55) [] [V.ptr 8 0]],Blk.row [V.ptr 1 0] 86 1,Blk.row [V.ptr 1 1] 86 1,Blk.row [V.ptr 1 2] 86 1,Blk.row [V.ptr
 1 3] 86 1,Blk.row [V.ptr 1 4] 86 1,Blk.row [V.ptr 1 5] 86 1]else bif Nat.ble 5 (UP (strOfV (ds.getD (i.toNat*1) (V.bool false)))).length&&(UP (strOfV (ds.getD
 (i.toNat*1) (V.bool false)))).length.ble (UP (strOfV (ds.getD (i.toNat*1) (V.bool false)))).length then bif OL (List.take ((UP (strOfV (ds.getD (i.toNat*1) (V.bool
 false)))).length-5) (List.drop 5 (UP (strOfV (ds.getD (i.toNat*1) (V.bool false))))))&&true then bif NE (List.take ((UP (strOfV (ds.getD (i.toNat*1) (V.bool
 false)))).length-5) (List.drop 5 (UP (strOfV (ds.getD (i.toNat*1) (V.bool false)))))) 1099511627776==4 then R Exit.normal [some (V.ptr 0 0),some (V.ptr 1 0),some
 (V.map 2),some (V.lst y m ds),some (V.int IntKind.i64 (↑m:Int)),some (V.int IntKind.i64 (IntKind.i64.wrap (i+1)))] [Blk.row [V.bool false,V.bool false,V.bool
 false,V.bool false,V.bool false,V.bool false,V.int IntKind.i64 0] 34 7,Blk.row [V.bool a1,V.bool a2,V.bool a3,V.bool a4,V.bool a5,V.bool a6,V.int IntKind.i64
 mo] 34 7,Blk.mp [V.str [83,84,65,82,84,84,76,83],V.func (Fn.func 55) [] [V.ptr 3 0],V.str [80,73,80,69,76,73,78,73,78,71],V.func (Fn.func 55) []
 [V.ptr 4 0],V.str [82,69,81,85,73,82,69,84,76,83],V.func (Fn.func 55) [] [V.ptr 5 0],V.str [68,83,78],V.func (Fn.func 55) [] [V.ptr 6 0],V.str [56,66,
 73,84,77,73,77,69],V.func (Fn.func 55) [] [V.ptr 7 0],V.str [83,73,90,69],V.func (Fn.func 55) [] [V.ptr 8 0]],Blk.row [V.ptr 1 0] 86 1,Blk.row [V.ptr 1 1] 86
 1,Blk.row [V.ptr 1 2] 86 1,Blk.row [V.ptr 1 3] 86 1,Blk.row [V.ptr 1 4] 86 1,Blk.row [V.ptr 1 5] 86 1]else bif mo==0 then R Exit.normal [some (V.ptr 0 0),some
 (V.ptr 1 0),some (V.map 2),some (V.lst y m ds),some (V.int IntKind.i64 (↑m:Int)),some (V.int IntKind.i64 (IntKind.i64.wrap (i+1)))] [Blk.row [V.bool false,V.bool
 false,V.bool false,V.bool false,V.bool false,V.bool false,V.int IntKind.i64 0] 34 7,Blk.row [V.bool a1,V.bool a2,V.bool a3,V.bool a4,V.bool a5,V.bool true,
 V.int IntKind.i64 (NV (List.take ((UP (strOfV (ds.getD (i.toNat*1) (V.bool false)))).length-5) (List.drop 5 (UP (strOfV (ds.getD (i.toNat*1) (V.bool false))))))
 1099511627776)] 34 7,Blk.mp [V.str [83,84,65,82,84,84,76,83],V.func (Fn.func 55) [] [V.ptr 3 0],V.str [80,73,80,69,76,73,78,73,78,71],V.func (Fn.func
 55) [] [V.ptr 4 0],V.str [82,69,81,85,73,82,69,84,76,83],V.func (Fn.func 55) [] [V.ptr 5 0],V.str [68,83,78],V.func (Fn.func 55) [] [V.ptr 6 0],V.str [56,
 66,73,84,77,73,77,69],V.func (Fn.func 55) [] [V.ptr 7 0],V.str [83,73,90,69],V.func (Fn.func 55) [] [V.ptr 8 0]],Blk.row [V.ptr 1 0] 86 1,Blk.row [V.ptr 1
 1] 86 1,Blk.row [V.ptr 1 2] 86 1,Blk.row [V.ptr 1 3] 86 1,Blk.row [V.ptr 1 4] 86 1,Blk.row [V.ptr 1 5] 86 1]else R Exit.normal [some (V.ptr 0 0),some (V.ptr 1 0),
 some (V.map 2),some (V.lst y m ds),some (V.int IntKind.i64 (↑m:Int)),some (V.int IntKind.i64 (IntKind.i64.wrap (i+1)))] [Blk.row [V.bool false,V.bool false,
 V.bool false,V.bool false,V.bool false,V.bool false,V.int IntKind.i64 0] 34 7,Blk.row [V.bool a1,V.bool a2,V.bool a3,V.bool a4,V.bool a5,V.bool true,V.int
 IntKind.i64 mo] 34 7,Blk.mp [V.str [83,84,65,82,84,84,76,83],V.func (Fn.func 55) [] [V.ptr 3 0],V.str [80,73,80,69,76,73,78,73,78,71],V.func (Fn.func
 55) [] [V.ptr 4 0],V.str [82,69,81,85,73,82,69,84,76,83],V.func (Fn.func 55) [] [V.ptr 5 0],V.str [68,83,78],V.func (Fn.func 55) [] [V.ptr 6 0],V.str [56,
 66,73,84,77,73,77,69],V.func (Fn.func 55) [] [V.ptr 7 0],V.str [83,73,90,69],V.func (Fn.func 55) [] [V.ptr 8 0]],Blk.row [V.ptr 1 0] 86 1,Blk.row [V.ptr 1
 1] 86 1,Blk.row [V.ptr 1 2] 86 1,Blk.row [V.ptr 1 3] 86 1,Blk.row [V.ptr 1 4] 86 1,Blk.row [V.ptr 1 5] 86 1]else False else False else False else R Exit.normal [some
 (V.ptr 0 0),some (V.ptr 1 0),some (V.map 2),some (V.lst y m ds),some (V.int IntKind.i64 (↑m:Int)),some (V.int IntKind.i64 (IntKind.i64.wrap (i+1)))] [Blk.row
 [V.bool false,V.bool false,V.bool false,V.bool false,V.bool false,V.bool false,V.int IntKind.i64 0] 34 7,Blk.row [V.bool a1,V.bool a2,V.bool a3,V.bool a4,
 V.bool a5,V.bool a6,V.int IntKind.i64 mo] 34 7,Blk.mp [V.str [83,84,65,82,84,84,76,83],V.func (Fn.func 55) [] [V.ptr 3 0],V.str [80,73,80,69,76,73,78,
 73,78,71],V.func (Fn.func 55) [] [V.ptr 4 0],V.str [82,69,81,85,73,82,69,84,76,83],V.func (Fn.func 55) [] [V.ptr 5 0],V.str [68,83,78],V.func (Fn.func
 55) [] [V.ptr 6 0],V.str [56,66,73,84,77,73,77,69],V.func (Fn.func 55) [] [V.ptr 7 0],V.str [83,73,90,69],V.func (Fn.func 55) [] [V.ptr 8 0]],Blk.row
 [V.ptr 1 0] 86 1,Blk.row [V.ptr 1 1] 86 1,Blk.row [V.ptr 1 2] 86 1,Blk.row [V.ptr 1 3] 86 1,Blk.row [V.ptr 1 4] 86 1,Blk.row [V.ptr 1 5] 86 1]else False else False
 else False else False else R (Exit.exit 0) [some (V.ptr 0 0),some (V.ptr 1 0),some (V.map 2),some (V.lst y m ds),some (V.int IntKind.i64 (↑m:Int)),some (V.int
 IntKind.i64 i)] [Blk.row [V.bool false,V.bool false,V.bool false,V.bool false,V.bool false,V.bool false,V.int IntKind.i64 0] 34 7,Blk.row [V.bool a1,V.bool a2,
 V.bool a3,V.bool a4,V.bool a5,V.bool a6,V.int IntKind.i64 mo] 34 7,Blk.mp [V.str [83,84,65,82,84,84,76,83],V.func (Fn.func 55) [] [V.ptr 3 0],V.str [80,73,
 80,69,76,73,78,73,78,71],V.func (Fn.func 55) [] [V.ptr 4 0],V.str [82,69,81,85,73,82,69,84,76,83],V.func (Fn.func 55) [] [V.ptr 5 0],V.str [68,83,
 78],V.func (Fn.func 55) [] [V.ptr 6 0],V.str [56,66,73,84,77,73,77,69],V.func (Fn.func 55) [] [V.ptr 7 0],V.str [83,73,90,69],V.func (Fn.func 55) [] [V.ptr
 8 0]],Blk.row [V.ptr 1 0] 86 1,Blk.row [V.ptr 1 1] 86 1,Blk.row [V.ptr 1 2] 86 1,Blk.row [V.ptr 1 3] 86 1,Blk.row [V.ptr 1 4] 86 1,Blk.row [V.ptr 1 5] 86 1]):=by kernel_rfl
def cpV(c:CP):List V:=[.bool c.st,.bool c.pi,.bool c.rq,.bool c.ds,.bool c.eb,.bool c.si,.int .i64 c.mo]
theorem cpV_flat(c:CP):flatL (cpV c)=true:=rfl
def zeV:List V:=[.bool false,.bool false,.bool false,.bool false,.bool false,.bool false,.int .i64 0]
def coMem(c:List V):St:=[.row zeV 34 7,.row c 34 7,.mp [.str [83,84,65,82,84,84,76,83],.func (.func 55) [] [.ptr 3 0],.str [80,73,80,69,76,73,78,73,78,71],.func (.func 55) [] [.ptr 4 0],.str [82,69,81,85,73,82,69,84,76,83],.func (.func 55) [] [.ptr 5 0],.str [68,83,78],.func (.func 55) [] [.ptr 6 0],.str [56,66,73,84,77,73,77,69],.func (.func 55) [] [.ptr 7 0],.str [83,73,90,69],.func (.func 55) [] [.ptr 8 0]],.row [.ptr 1 0] 86 1,.row [.ptr 1 1] 86 1,.row [.ptr 1 2] 86 1,.row [.ptr 1 3] 86 1,.row [.ptr 1 4] 86 1,.row [.ptr 1 5] 86 1]
structure CO where
 c:CP
 y:Value
 m:Nat
 ds:List V
 i:Nat
def coV(x:CO):List V:=[.ptr 0 0,.ptr 1 0,.map 2,.lst x.y x.m x.ds,.int .i64 (x.m:Int),.int .i64 (x.i:Int)]
def coJ(x:CO):St:=coMem (cpV x.c)
def shortS(s:List UInt8):Bool:=Nat.ble s.length 30000
def coPre(x:CO):Bool:=okS x.m x.ds&&(Nat.ble x.i x.m&&(x.ds.map strOfV).all shortS)
def coMu(x:CO):Nat:=x.m-x.i
def cpOf:List V→CP
 |[.bool a,.bool b,.bool c,.bool d,.bool e,.bool f,.int .i64 m]=>⟨a,b,c,d,e,f,m⟩
 |_=>cp0
def coDec:List (Option V)→St→Option CO
 |[some (.ptr _ 0),some (.ptr k 0),some (.map _),some (.lst y m ds),some (.int .i64 _),some (.int .i64 0)],st=>match st[k]? with
  |some (.row c _ _)=>some ⟨cpOf c,y,m,ds,0⟩
  |_=>none
 |_,_=>none
def coF(ds:List V)(i:Nat)(c:CP):CP:=linesU numV numE ((ds.map strOfV).drop i) c
def coOutG(y:Value)(m:Nat)(ds:List V)(c:CP)(K:Exit→List V→St→Prop):Prop:=
 K (.exit 0) [.ptr 0 0,.ptr 1 0,.map 2,.lst y m ds,.int .i64 (m:Int),.int .i64 (m:Int)] (coMem (cpV c))
def coOut:Asks CO:=fun x K=>coOutG x.y x.m x.ds (coF x.ds x.i x.c) K
theorem co_fits(c:CP)(y:Value)(m:Nat)(ds:List V)(i:Int):Fits 0 [.ptr 0 0,.ptr 1 0,.map 2,.lst y m ds,.int .i64 (m:Int),.int .i64 i] (coMem (cpV c)) [some (.ptr 0 0),some (.ptr 1 0),some (.map 2),some (.lst y m ds),some (.int .i64 (m:Int)),some (.int .i64 i)] (coMem (cpV c)):=
 ⟨[0,1,2,3,4,5,6,7,8],[.ptr 0 0,.ptr 1 0,.map 2,.lst y m ds,.int .i64 (m:Int),.int .i64 i],rfl,rfl,FitsM.of ⟨fb rfl rfl,fb (cpV_flat c) rfl,.inr ⟨_,.inl rfl,rfl⟩,.inr ⟨_,.inl rfl,rfl⟩,.inr ⟨_,.inl rfl,rfl⟩,.inr ⟨_,.inl rfl,rfl⟩,.inr ⟨_,.inl rfl,rfl⟩,.inr ⟨_,.inl rfl,rfl⟩,.inr ⟨_,.inl rfl,rfl⟩,trivial⟩,by decide,fun i hi=>by omega⟩
theorem eqS_beq:∀a b:List UInt8,eqS a b=(a==b)
 |[],[]=>rfl
 |[],_::_=>rfl
 |_::_,[]=>rfl
 |a::r,b::t=>by
  show(_&&eqS r t)=_;rw[eqS_beq r t];cases hab:(a==b)with
  |true=>have:=eq_of_beq hab;subst this;simp
  |false=>
   have hne:=beq_eq_false_iff_ne.1 hab;have h1:a.toNat.beq b.toNat=false:=by
    cases h:a.toNat.beq b.toNat with
    |false=>rfl
    |true=>exact absurd (UInt8.toNat_inj.1 (Nat.eq_of_beq_eq_true h)) hne
   show(a.toNat.beq b.toNat&&r==t)=(a==b&&r==t);rw[h1,hab]
theorem line_word{w:List UInt8}{f:CP→CP}(hu:w.all isUp=true)(h:∀x,linesU numV numE [w] x=f x)(x:CP):lineU numV numE w x=f x:=by
 have:=h x;rw[linesU,linesU,up_id hu]at this;exact this
theorem line_not{u:List UInt8}(h:(u.take 5==wSZ)=false)(c:CP):lineU numV numE u c=setW u c:=by unfold lineU;rw[h];rfl
theorem set_not{u:List UInt8}(h1:(u==wST)=false)(h2:(u==wPI)=false)(h3:(u==wRQ)=false)(h4:(u==wDS)=false)(h5:(u==wEB)=false)(h6:(u==wSI)=false)(c:CP):setW u c=c:=by
 unfold setW;rw[h1,h2,h3,h4,h5,h6];simp only[Bool.or_false]
theorem line0(a1 a2 a3 a4 a5 a6:Bool)(mo:Int):lineU numV numE wST ⟨a1,a2,a3,a4,a5,a6,mo⟩=⟨true,a2,a3,a4,a5,a6,mo⟩:=by
 rw[line_word (w:=wST) rfl (said_st true)];simp only[Bool.or_true]
theorem line1(a1 a2 a3 a4 a5 a6:Bool)(mo:Int):lineU numV numE wPI ⟨a1,a2,a3,a4,a5,a6,mo⟩=⟨a1,true,a3,a4,a5,a6,mo⟩:=by
 rw[line_word (w:=wPI) rfl (said_pi true)];simp only[Bool.or_true]
theorem line2(a1 a2 a3 a4 a5 a6:Bool)(mo:Int):lineU numV numE wRQ ⟨a1,a2,a3,a4,a5,a6,mo⟩=⟨a1,a2,true,a4,a5,a6,mo⟩:=by
 rw[line_word (w:=wRQ) rfl (said_rq true)];simp only[Bool.or_true]
theorem line3(a1 a2 a3 a4 a5 a6:Bool)(mo:Int):lineU numV numE wDS ⟨a1,a2,a3,a4,a5,a6,mo⟩=⟨a1,a2,a3,true,a5,a6,mo⟩:=by
 rw[line_word (w:=wDS) rfl (said_ds true)];simp only[Bool.or_true]
theorem line4(a1 a2 a3 a4 a5 a6:Bool)(mo:Int):lineU numV numE wEB ⟨a1,a2,a3,a4,a5,a6,mo⟩=⟨a1,a2,a3,a4,true,a6,mo⟩:=by
 rw[line_word (w:=wEB) rfl (said_eb true)];simp only[Bool.or_true]
theorem line5(a1 a2 a3 a4 a5 a6:Bool)(mo:Int):lineU numV numE wSI ⟨a1,a2,a3,a4,a5,a6,mo⟩=⟨a1,a2,a3,a4,a5,true,mo⟩:=by
 rw[line_not rfl];unfold setW;rw[show(wSI==wST)=false from rfl,show(wSI==wPI)=false from rfl,show(wSI==wRQ)=false from rfl,show(wSI==wDS)=false from rfl,show(wSI==wEB)=false from rfl,show(wSI==wSI)=true from rfl];simp only[Bool.or_false,Bool.or_true]
theorem co_roundOk(x:CO)(hx:coPre x=true):roundW Tryd.prog (CO0 okL up numV numE) 9 20 (rounds 9) 22 250 [2,3,4,25,26,27] (coV x) (coJ x) (RoundOkA 0 coPre coV coJ coMu coOut x):=by
 obtain⟨⟨a1,a2,a3,a4,a5,a6,mo⟩,y,m,ds,i⟩:=x;unfold coPre at hx;simp only[Bool.and_eq_true]at hx;have hx1:okS m ds=true:=hx.1;have p1:i≤m:=Nat.le_of_ble_eq_true hx.2.1;have p4:(ds.map strOfV).all shortS=true:=hx.2.2;obtain⟨l,rfl,rfl,p2,p3⟩:=okS_spec hx1;rw[strs_strOf]at p4;show roundW Tryd.prog (CO0 okL up numV numE) 9 20 (rounds 9) 22 250 [2,3,4,25,26,27] [.ptr 0 0,.ptr 1 0,.map 2,.lst y l.length (strs l),.int .i64 (l.length:Int),.int .i64 (i:Int)] [.row [.bool false,.bool false,.bool false,.bool false,.bool false,.bool false,.int .i64 0] 34 7,.row [.bool a1,.bool a2,.bool a3,.bool a4,.bool a5,.bool a6,.int .i64 mo] 34 7,.mp [.str [83,84,65,82,84,84,76,83],.func (.func 55) [] [.ptr 3 0],.str [80,73,80,69,76,73,78,73,78,71],.func (.func 55) [] [.ptr 4 0],.str [82,69,81,85,73,82,69,84,76,83],.func (.func 55) [] [.ptr 5 0],.str [68,83,78],.func (.func 55) [] [.ptr 6 0],.str [56,66,73,84,77,73,77,69],.func (.func 55) [] [.ptr 7 0],.str [83,73,90,69],.func (.func 55) [] [.ptr 8 0]],.row [.ptr 1 0] 86 1,.row [.ptr 1 1] 86 1,.row [.ptr 1 2] 86 1,.row [.ptr 1 3] 86 1,.row [.ptr 1 4] 86 1,.row [.ptr 1 5] 86 1] _;rw[co_round];have out:∀K,coOut ⟨⟨a1,a2,a3,a4,a5,a6,mo⟩,y,l.length,strs l,i⟩ K→coOutG y l.length (strs l) (linesU numV numE (l.drop i) ⟨a1,a2,a3,a4,a5,a6,mo⟩) K:=fun K hK=>by
  have hK:coOutG y l.length (strs l) (coF (strs l) i ⟨a1,a2,a3,a4,a5,a6,mo⟩) K:=hK;unfold coF at hK;rw[strs_strOf]at hK;exact hK
 cases hd:l.drop i with
 |nil=>
  have hi:=dropA_nil hd p1;rw[decide_eq_false (show ¬((i:Int)<(l.length:Int)) by omega),cond_false];refine⟨_,_,fun K hK=>?_,co_fits ⟨a1,a2,a3,a4,a5,a6,mo⟩ y l.length (strs l) i⟩;have hK2:=out K hK;rw[hd]at hK2;subst hi;exact hK2
 |cons s r=>
  obtain⟨e1,e2,e3⟩:=dropA_cons hd;obtain⟨e4,e5⟩:=strs_at hd;have hs:s.length≤30000:=Nat.le_of_ble_eq_true (List.all_eq_true.1 p4 s (List.mem_of_mem_drop (by rw[hd];simp)));have hk:okL s=true:=decide_eq_true (by omega);have hul:=up_len s.length s (Nat.le_refl _);have q1:decide ((i:Int)<(l.length:Int))=true:=decide_eq_true (by omega);have q2:decide ((0:Int)≤(i:Int))=true:=decide_eq_true (by omega);have w1:IntKind.i64.wrap ((i:Int)+1)=((i+1:Nat):Int):=by rw[IntWalk.i64_in _ ⟨by omega,by omega⟩];omega
  simp only[q1,q2,Int.toNat_natCast,e4,e5,isStrV,strOfV,hk,cond_true,Bool.and_true,Bool.true_and,eqS_beq,w1,List.drop_zero];have next:∀c':CP,lineU numV numE (up s) ⟨a1,a2,a3,a4,a5,a6,mo⟩=c'→RoundOkA 0 coPre coV coJ coMu coOut ⟨⟨a1,a2,a3,a4,a5,a6,mo⟩,y,l.length,strs l,i⟩ .normal [some (.ptr 0 0),some (.ptr 1 0),some (.map 2),some (.lst y l.length (strs l)),some (.int .i64 (l.length:Int)),some (.int .i64 ((i+1:Nat):Int))] (coMem (cpV c')):=fun c' hc=>by
   refine⟨⟨c',y,l.length,strs l,i+1⟩,?_,co_fits c' y l.length (strs l) _,by simp only[coMu];omega,fun K hK=>?_⟩
   ·unfold coPre;simp only[Bool.and_eq_true];exact⟨hx1,Nat.ble_eq_true_of_le (show i+1≤l.length by omega),by rw[strs_strOf];exact p4⟩
   ·have hK:=out K hK;rw[hd,linesU,hc]at hK;show coOutG y l.length (strs l) (linesU numV numE (((strs l).map strOfV).drop (i+1)) c') K;rw[strs_strOf,e2];exact hK
  generalize up s=u at next hul ⊢
  refine bif_intro (fun h0=>?_) (fun h0=>?_)
  ·have hw:u=wST:=eq_of_beq h0;subst hw;exact next ⟨true,a2,a3,a4,a5,a6,mo⟩ (line0 a1 a2 a3 a4 a5 a6 mo)
  refine bif_intro (fun h1=>?_) (fun h1=>?_)
  ·have hw:u=wPI:=eq_of_beq h1;subst hw;exact next ⟨a1,true,a3,a4,a5,a6,mo⟩ (line1 a1 a2 a3 a4 a5 a6 mo)
  refine bif_intro (fun h2=>?_) (fun h2=>?_)
  ·have hw:u=wRQ:=eq_of_beq h2;subst hw;exact next ⟨a1,a2,true,a4,a5,a6,mo⟩ (line2 a1 a2 a3 a4 a5 a6 mo)
  refine bif_intro (fun h3=>?_) (fun h3=>?_)
  ·have hw:u=wDS:=eq_of_beq h3;subst hw;exact next ⟨a1,a2,a3,true,a5,a6,mo⟩ (line3 a1 a2 a3 a4 a5 a6 mo)
  refine bif_intro (fun h4=>?_) (fun h4=>?_)
  ·have hw:u=wEB:=eq_of_beq h4;subst hw;exact next ⟨a1,a2,a3,a4,true,a6,mo⟩ (line4 a1 a2 a3 a4 a5 a6 mo)
  refine bif_intro (fun h5=>?_) (fun h5=>?_)
  ·have hw:u=wSI:=eq_of_beq h5;subst hw;exact next ⟨a1,a2,a3,a4,a5,true,mo⟩ (line5 a1 a2 a3 a4 a5 a6 mo)
  have hset:=set_not h0 h1 h2 h3 h4 h5 ⟨a1,a2,a3,a4,a5,a6,mo⟩;have none:(u.take 5==wSZ)=false→RoundOkA 0 coPre coV coJ coMu coOut ⟨⟨a1,a2,a3,a4,a5,a6,mo⟩,y,l.length,strs l,i⟩ .normal [some (.ptr 0 0),some (.ptr 1 0),some (.map 2),some (.lst y l.length (strs l)),some (.int .i64 (l.length:Int)),some (.int .i64 ((i+1:Nat):Int))] (coMem (cpV ⟨a1,a2,a3,a4,a5,a6,mo⟩)):=fun h=>next _ (by rw[line_not h,hset])
  refine bif_intro (fun h6=>?_) (fun h6=>none ?_)
  ·have h6:=of_decide_eq_true h6;have e5:u.take (u.length-5+5)=u:=by rw[List.take_of_length_le];omega
   have ed:(u.drop 5).take (u.length-5)=u.drop 5:=List.take_of_length_le (by rw[List.length_drop];exact Nat.le_refl _);refine must_intro (Nat.ble_eq_true_of_le (by omega)) ?_;rw[ed];refine bif_intro (fun h7=>none ?_) (fun h7=>?_)
   ·cases h:(u.take 5==wSZ)with
    |false=>rfl
    |true=>have h:(List.take 5 u==[83,73,90,69,32])=true:=h;rw[h]at h7;cases h7
   ·have h7:(u.take 5==wSZ)=true:=by
     cases h:(u.take 5==wSZ)with
     |true=>rfl
     |false=>have h:(List.take 5 u==[83,73,90,69,32])=false:=h;rw[h]at h7;cases h7
    refine must_intro (by rw[Bool.and_eq_true];exact⟨Nat.ble_eq_true_of_le (by omega),Nat.ble_eq_true_of_le (Nat.le_refl _)⟩) (must_intro (decide_eq_true (by rw[List.length_drop];omega)) ?_);refine bif_intro (fun h8=>?_) (fun h8=>?_)
    ·exact next ⟨a1,a2,a3,a4,a5,a6,mo⟩ (by unfold lineU;rw[h7,h8];exact hset)
    ·refine bif_intro (fun h9=>?_) (fun h9=>?_)
     ·exact next ⟨a1,a2,a3,a4,a5,true,numV (u.drop 5) 1099511627776⟩ (by unfold lineU;rw[h7,h8,hset];simp only[h9];rfl)
     ·exact next ⟨a1,a2,a3,a4,a5,true,mo⟩ (by unfold lineU;rw[h7,h8,hset];simp only[h9];rfl)
  ·have h6:=of_decide_eq_false h6;cases h:(u.take 5==wSZ)with
   |false=>rfl
   |true=>
    have:=congrArg List.length (eq_of_beq h);rw[List.length_take]at this;have e:wSZ.length=5:=rfl;omega
noncomputable def lkCO:Nat→Trans→Trans:=withLoop 250 (loopA 0 (szOf Tryd.prog 22) [2,3,4,25,26,27] coDec coPre coV coJ coOut) (rounds 9)
theorem lkCO_ok:FnLoopsW Tryd.prog 0 lkCO 22:=by
 unfold lkCO;exact fnLoopW (fnRoundsW 9 0 22) (by kernel_rfl) fun f st Q h=>loopA_ok (P:=Tryd.prog) (T:=CO0 okL up numV numE) (k:=0) (lim:=9) (n:=20) (g:=22) (p0:=250) (lk:=rounds 9) mixed CO0_ok (roundsW 9 _ _) coMu co_roundOk h
noncomputable def COT:Tab:=⟨noT,noL,addLk (noLks 9) 22 0 lkCO⟩
theorem COT_ok:TabOk3 Tryd.prog COT:=⟨noT_ok,noL_ok,addLk_ok (noLks_ok 9) lkCO_ok⟩
theorem of_tree(co:Int)(en:List UInt8)(x:Value)(n:Nat)(cs:List V)(R:V→Prop):runW Tryd.prog COT 9 20 22 [.agg [.int .i64 co,.str en,.lst x n cs]] R=
  (
 bif co !=250 then R (V.agg [V.bool false,V.bool false,V.bool false,V.bool false,V.bool false,V.bool false,V.int IntKind.i64 0])else bif (↑n:Int)==0 then R
 (V.agg [V.bool false,V.bool false,V.bool false,V.bool false,V.bool false,V.bool false,V.int IntKind.i64 0])else bif Nat.ble 1 n&&n.ble n then Fits 0 [V.ptr 0 0,
 V.ptr 1 0,V.map 2,V.lst (sliceX x 1 n 1) (n-1) (List.take ((n-1)*1) (List.drop 1 cs)),V.int IntKind.i64 (↑(n-1):Int),V.int IntKind.i64 0] [Blk.row [V.bool
 false,V.bool false,V.bool false,V.bool false,V.bool false,V.bool false,V.int IntKind.i64 0] 34 7,Blk.row [V.bool false,V.bool false,V.bool false,V.bool false,
 V.bool false,V.bool false,V.int IntKind.i64 0] 34 7,Blk.mp [V.str [83,84,65,82,84,84,76,83],V.func (Fn.func 55) [] [V.ptr 3 0],V.str [80,73,80,69,76,73,
 78,73,78,71],V.func (Fn.func 55) [] [V.ptr 4 0],V.str [82,69,81,85,73,82,69,84,76,83],V.func (Fn.func 55) [] [V.ptr 5 0],V.str [68,83,78],V.func
 (Fn.func 55) [] [V.ptr 6 0],V.str [56,66,73,84,77,73,77,69],V.func (Fn.func 55) [] [V.ptr 7 0],V.str [83,73,90,69],V.func (Fn.func 55) [] [V.ptr 8 0]],
 Blk.row [V.ptr 1 0] 86 1,Blk.row [V.ptr 1 1] 86 1,Blk.row [V.ptr 1 2] 86 1,Blk.row [V.ptr 1 3] 86 1,Blk.row [V.ptr 1 4] 86 1,Blk.row [V.ptr 1 5] 86 1] [some (V.ptr 1
 0),some (V.ptr 2 0),some (V.map 3),some (V.lst (sliceX x 1 n 1) (n-1) (List.take ((n-1)*1) (List.drop 1 cs))),some (V.int IntKind.i64 (↑(n-1):Int)),some
 (V.int IntKind.i64 0)] [Blk.row [V.int IntKind.i64 co,V.str en,V.lst x n cs] 38 3,Blk.row [V.bool false,V.bool false,V.bool false,V.bool false,V.bool false,V.bool
 false,V.int IntKind.i64 0] 34 7,Blk.row [V.bool false,V.bool false,V.bool false,V.bool false,V.bool false,V.bool false,V.int IntKind.i64 0] 34 7,Blk.mp [V.str
 [83,84,65,82,84,84,76,83],V.func (Fn.func 55) [] [V.ptr 4 0],V.str [80,73,80,69,76,73,78,73,78,71],V.func (Fn.func 55) [] [V.ptr 5 0],V.str [82,69,
 81,85,73,82,69,84,76,83],V.func (Fn.func 55) [] [V.ptr 6 0],V.str [68,83,78],V.func (Fn.func 55) [] [V.ptr 7 0],V.str [56,66,73,84,77,73,77,69],
 V.func (Fn.func 55) [] [V.ptr 8 0],V.str [83,73,90,69],V.func (Fn.func 55) [] [V.ptr 9 0]],Blk.row [V.ptr 2 0] 86 1,Blk.row [V.ptr 2 1] 86 1,Blk.row [V.ptr 2 2]
 86 1,Blk.row [V.ptr 2 3] 86 1,Blk.row [V.ptr 2 4] 86 1,Blk.row [V.ptr 2 5] 86 1]∧bif coPre {c:={st:=false,pi:=false,rq:=false,ds:=false,eb:=false,si:=false,mo:=0},y:=sliceX x 1 n 1,m:=n-1,ds:=List.take ((n-1)*1) (List.drop 1 cs),i:=0}
 then R (V.agg [V.bool (coF (List.take ((n-1)*1) (List.drop 1 cs)) 0 {st:=false,pi:=false,rq:=false,ds:=false,eb:=false,si:=false,mo:=0}).st,
 V.bool (coF (List.take ((n-1)*1) (List.drop 1 cs)) 0 {st:=false,pi:=false,rq:=false,ds:=false,eb:=false,si:=false,mo:=0}).pi,V.bool (coF
 (List.take ((n-1)*1) (List.drop 1 cs)) 0 {st:=false,pi:=false,rq:=false,ds:=false,eb:=false,si:=false,mo:=0}).rq,V.bool (coF (List.take ((n-
 1)*1) (List.drop 1 cs)) 0 {st:=false,pi:=false,rq:=false,ds:=false,eb:=false,si:=false,mo:=0}).ds,V.bool (coF (List.take ((n-1)*1) (List.drop
 1 cs)) 0 {st:=false,pi:=false,rq:=false,ds:=false,eb:=false,si:=false,mo:=0}).eb,V.bool (coF (List.take ((n-1)*1) (List.drop 1 cs)) 0 {st:=false,pi:=false,rq:=false,ds:=false,eb:=false,si:=false,mo:=0}).si,
 V.int IntKind.i64 (coF (List.take ((n-1)*1) (List.drop 1 cs)) 0 {st:=false,pi:=false,rq:=false,ds:=false,eb:=false,si:=false,mo:=0}).mo])else
 False else False):=by kernel_rfl
theorem realL_one{Φ Ψ:Frz}{m m':List MB}{p:V}{b:List V}{f:Value→V}(hf:∀y,@real _ Φ m p=some y→@real _ Ψ m' (f y)=some y)(hb:plainL b=true):∀(a:List V) (xs:List Value),plainL a=true→@realL _ Φ m (a++p::b)=some xs→∃y,@realL _ Ψ m' (a++f y::b)=some xs
 |[],xs,_,h=>by
  obtain⟨y,r,q1,q2,rfl⟩:=@realL_cons _ Φ m _ _ _ h;exact⟨y,@realL_mk _ Ψ m' _ _ _ _ (hf y q1) (realL_plain _ _ hb q2)⟩
 |v::a,xs,ha,h=>by
  obtain⟨z,r,q1,q2,rfl⟩:=@realL_cons _ Φ m _ _ _ h;simp only[plainL,Bool.and_eq_true]at ha;obtain⟨y,hy⟩:=realL_one hf hb a r ha.2 q2;exact⟨y,@realL_mk _ Ψ m' _ _ _ _ (real_plain _ _ ha.1 q1) hy⟩
theorem agg_one{Φ Ψ:Frz}{m m':List MB}{p:V}{b:List V}{f:Value→V}(hf:∀y,@real _ Φ m p=some y→@real _ Ψ m' (f y)=some y)(a:List V)(ha:plainL a=true)(hb:plainL b=true){x:Value}(h:@real _ Φ m (.agg (a++p::b))=some x):∃y,@real _ Ψ m' (.agg (a++f y::b))=some x:=by
 obtain⟨xs,h0,rfl⟩:=@real_agg _ Φ m _ _ h;obtain⟨y,hy⟩:=realL_one hf hb a xs ha h0;exact⟨y,by simp only[real,hy]⟩
def ofC(co:Int)(l:List (List UInt8)):CP:=bif co==250 then linesU numV numE (l.drop 1) cp0 else cp0
theorem co_fitsE(c:CP)(y:Value)(m:Nat)(ds:List V)(i:Int)(b:Blk):Fits 0 [.ptr 0 0,.ptr 1 0,.map 2,.lst y m ds,.int .i64 (m:Int),.int .i64 i] (coMem (cpV c)) [some (.ptr 1 0),some (.ptr 2 0),some (.map 3),some (.lst y m ds),some (.int .i64 (m:Int)),some (.int .i64 i)] (b::[.row zeV 34 7,.row (cpV c) 34 7,.mp [.str [83,84,65,82,84,84,76,83],.func (.func 55) [] [.ptr 4 0],.str [80,73,80,69,76,73,78,73,78,71],.func (.func 55) [] [.ptr 5 0],.str [82,69,81,85,73,82,69,84,76,83],.func (.func 55) [] [.ptr 6 0],.str [68,83,78],.func (.func 55) [] [.ptr 7 0],.str [56,66,73,84,77,73,77,69],.func (.func 55) [] [.ptr 8 0],.str [83,73,90,69],.func (.func 55) [] [.ptr 9 0]],.row [.ptr 2 0] 86 1,.row [.ptr 2 1] 86 1,.row [.ptr 2 2] 86 1,.row [.ptr 2 3] 86 1,.row [.ptr 2 4] 86 1,.row [.ptr 2 5] 86 1]):=
 ⟨[1,2,3,4,5,6,7,8,9],[.ptr 1 0,.ptr 2 0,.map 3,.lst y m ds,.int .i64 (m:Int),.int .i64 i],rfl,rfl,FitsM.of ⟨fb rfl rfl,fb (cpV_flat c) rfl,.inr ⟨_,.inl rfl,rfl⟩,.inr ⟨_,.inl rfl,rfl⟩,.inr ⟨_,.inl rfl,rfl⟩,.inr ⟨_,.inl rfl,rfl⟩,.inr ⟨_,.inl rfl,rfl⟩,.inr ⟨_,.inl rfl,rfl⟩,.inr ⟨_,.inl rfl,rfl⟩,trivial⟩,by decide,fun i hi=>by omega⟩
theorem of_sat(co:Int)(en:List UInt8)(x:Value)(l:List (List UInt8))(h1:l.length≤9223372036854775807)(h2:l.all shortS=true):FnSat Tryd.prog 22 [.agg [.int .i64 co,.str en,lstS x l]] [] (Is (.agg (cpV (ofC co l)),[])):=by
 unfold lstS;refine pureW_of (lim:=9) (n:=20) mixed COT_ok rfl rfl ?_;rw[of_tree];unfold ofC;refine bif_intro (fun h=>?_) (fun h=>?_)
 ·have e:(co==250)=false:=by cases he:(co==250)with
   |false=>rfl
   |true=>have:(!(co==250))=true:=h;rw[he]at this;cases this
  rw[e];rfl
 have e:(co==250)=true:=by cases he:(co==250)with
  |true=>rfl
  |false=>have:(!(co==250))=false:=h;rw[he]at this;cases this
 rw[e,cond_true];refine bif_intro (fun h0=>?_) (fun h0=>?_)
 ·have h0:(l.length:Int)=0:=eq_of_beq h0;have:l=[]:=List.eq_nil_of_length_eq_zero (by omega);subst this;rfl
 ·have hl:1≤l.length:=by
   rcases Nat.eq_zero_or_pos l.length with hz|hz
   ·rw[hz]at h0;cases h0
   ·exact hz
  refine must_intro (by rw[Bool.and_eq_true];exact⟨Nat.ble_eq_true_of_le hl,Nat.ble_eq_true_of_le (Nat.le_refl _)⟩) ?_;have ec:List.take ((l.length-1)*1) (List.drop 1 (strs l))=strs (l.drop 1):=by
   unfold strs;rw[←List.map_drop,List.take_of_length_le (by rw[List.length_map,List.length_drop];omega)]
  have el:l.length-1=(l.drop 1).length:=(List.length_drop ..).symm;rw[ec,el];refine⟨co_fitsE cp0 (sliceX x 1 l.length 1) _ _ 0 _,must_intro ?_ ?_⟩
  ·unfold coPre;simp only[Bool.and_eq_true];refine⟨okS_mk (by rw[List.length_drop];omega),Nat.ble_eq_true_of_le (Nat.zero_le _),?_⟩;rw[strs_strOf,List.all_eq_true];exact fun s hs=>List.all_eq_true.1 h2 s (List.mem_of_mem_drop hs)
  ·have e:coF (strs (l.drop 1)) 0 ⟨false,false,false,false,false,false,0⟩=linesU numV numE (l.drop 1) cp0:=by unfold coF;rw[strs_strOf];rfl
   rw[e];rfl
def ofOK(p:V)(st:St):Bool:=match viewS st p with
 |some (b,l)=>b&&(Nat.ble l.length 9223372036854775807&&l.all shortS)
 |none=>false
def ofV(co:Int)(p:V)(st:St):CP:=match viewS st p with
 |some (_,l)=>ofC co l
 |none=>cp0
def ofGV(OK:V→St→Bool)(OV:Int→V→St→CP):List V→St→Option (List (Bool×(V×St)))
 |[.agg [.int .i64 co,.str _,p]],st=>some [(OK p st,(.agg (cpV (OV co p st)),st))]
 |_,_=>none
theorem ofGV_ok(args:List V)(s:St)(L:List (Bool×(V×St)))(o:V×St)(h:ofGV ofOK ofV args s=some L)(ho:pickO L=some o):FnSat Tryd.prog 22 args s (Is o):=by
 unfold ofGV at h;split at h
 ·rename_i co en p;cases h;obtain⟨hb,rfl⟩:=pickO_one ho;unfold ofOK at hb;split at hb
  ·rename_i b l hv;have hL:ofV co p s=ofC co l:=by unfold ofV;rw[hv]
   rw[hL];simp only[Bool.and_eq_true]at hb;obtain⟨rfl,h1,h2⟩:=hb;refine frz_sat rfl fun B W0 w m rargs hr ha=>?_;obtain⟨x1,r1,q1,q2,rfl⟩:=realL_cons ha;obtain⟨y1,g1⟩:=agg_one (Ψ:=Frz.of w) (m':=[]) (f:=fun y=>lstS y l) (fun y hy=>viewS_ok hr hv hy) [.int .i64 co,.str en] rfl (b:=[]) rfl q1;have q3:=realL_plain (Ψ:=Frz.of w) (m':=[]) _ _ rfl q2;exact⟨[.agg [.int .i64 co,.str en,lstS y1 l]],@realL_mk _ (Frz.of w) [] _ _ _ _ g1 q3,@of_sat (Frz.of w) co en y1 l (Nat.le_of_ble_eq_true h1) h2⟩
  ·cases hb
 ·cases h
noncomputable def OLT(OK:V→St→Bool)(OV:Int→V→St→CP):Tab:=⟨noT,addS noL 22 (ofGV OK OV),noLks 9⟩
theorem OLT_ok:TabOk3 Tryd.prog (OLT ofOK ofV):=⟨noT_ok,addS_ok noL_ok ofGV_ok,noLks_ok 9⟩
theorem ofl_tree(OK:V→St→Bool)(OV:Int→V→St→CP)(x:Value)(n:Nat)(cs:List V)(R:V→Prop):runW Tryd.prog (OLT OK OV) 9 20 21 [.lst x n cs] R=
  (
 bif n.beq 0 then bif OK (V.slice 1 0 1 false 0 0) [Blk.row [V.bool false,V.bool false,V.bool false,V.bool false,V.bool false,V.bool false,V.int IntKind.i64 0] 34 7,
 Blk.row [V.str [109,120,46,101,120,97,109,112,108,101]] 9 1]then R (V.agg [V.bool (OV 250 (V.slice 1 0 1 false 0 0) [Blk.row [V.bool false,V.bool false,V.bool
 false,V.bool false,V.bool false,V.bool false,V.int IntKind.i64 0] 34 7,Blk.row [V.str [109,120,46,101,120,97,109,112,108,101]] 9 1]).st,V.bool (OV 250
 (V.slice 1 0 1 false 0 0) [Blk.row [V.bool false,V.bool false,V.bool false,V.bool false,V.bool false,V.bool false,V.int IntKind.i64 0] 34 7,Blk.row [V.str [109,
 120,46,101,120,97,109,112,108,101]] 9 1]).pi,V.bool (OV 250 (V.slice 1 0 1 false 0 0) [Blk.row [V.bool false,V.bool false,V.bool false,V.bool false,V.bool
 false,V.bool false,V.int IntKind.i64 0] 34 7,Blk.row [V.str [109,120,46,101,120,97,109,112,108,101]] 9 1]).rq,V.bool (OV 250 (V.slice 1 0 1 false 0 0)
 [Blk.row [V.bool false,V.bool false,V.bool false,V.bool false,V.bool false,V.bool false,V.int IntKind.i64 0] 34 7,Blk.row [V.str [109,120,46,101,120,97,109,
 112,108,101]] 9 1]).ds,V.bool (OV 250 (V.slice 1 0 1 false 0 0) [Blk.row [V.bool false,V.bool false,V.bool false,V.bool false,V.bool false,V.bool false,V.int
 IntKind.i64 0] 34 7,Blk.row [V.str [109,120,46,101,120,97,109,112,108,101]] 9 1]).eb,V.bool (OV 250 (V.slice 1 0 1 false 0 0) [Blk.row [V.bool false,V.bool
 false,V.bool false,V.bool false,V.bool false,V.bool false,V.int IntKind.i64 0] 34 7,Blk.row [V.str [109,120,46,101,120,97,109,112,108,101]] 9 1]).si,V.int
 IntKind.i64 (OV 250 (V.slice 1 0 1 false 0 0) [Blk.row [V.bool false,V.bool false,V.bool false,V.bool false,V.bool false,V.bool false,V.int IntKind.i64 0] 34 7,
 Blk.row [V.str [109,120,46,101,120,97,109,112,108,101]] 9 1]).mo])else False else bif cs.length.beq (n*1)&&cs.all V.one then bif (1+n).ble
 9223372036854775807&&((1+n)*16).ble 140737488355328 then bif OK (V.slice 2 0 (1+n) false 0 0) [Blk.row [V.bool false,V.bool false,V.bool false,V.bool false,
 V.bool false,V.bool false,V.int IntKind.i64 0] 34 7,Blk.dead,Blk.row (V.str [109,120,46,101,120,97,109,112,108,101]::cs) 9 1]then R (V.agg [V.bool (OV 250
 (V.slice 2 0 (1+n) false 0 0) [Blk.row [V.bool false,V.bool false,V.bool false,V.bool false,V.bool false,V.bool false,V.int IntKind.i64 0] 34 7,Blk.dead,Blk.row
 (V.str [109,120,46,101,120,97,109,112,108,101]::cs) 9 1]).st,V.bool (OV 250 (V.slice 2 0 (1+n) false 0 0) [Blk.row [V.bool false,V.bool false,V.bool
 false,V.bool false,V.bool false,V.bool false,V.int IntKind.i64 0] 34 7,Blk.dead,Blk.row (V.str [109,120,46,101,120,97,109,112,108,101]::cs) 9 1]).pi,
 V.bool (OV 250 (V.slice 2 0 (1+n) false 0 0) [Blk.row [V.bool false,V.bool false,V.bool false,V.bool false,V.bool false,V.bool false,V.int IntKind.i64 0] 34 7,
 Blk.dead,Blk.row (V.str [109,120,46,101,120,97,109,112,108,101]::cs) 9 1]).rq,V.bool (OV 250 (V.slice 2 0 (1+n) false 0 0) [Blk.row [V.bool false,V.bool
 false,V.bool false,V.bool false,V.bool false,V.bool false,V.int IntKind.i64 0] 34 7,Blk.dead,Blk.row (V.str [109,120,46,101,120,97,109,112,108,101]::cs)
 9 1]).ds,V.bool (OV 250 (V.slice 2 0 (1+n) false 0 0) [Blk.row [V.bool false,V.bool false,V.bool false,V.bool false,V.bool false,V.bool false,V.int IntKind.i64
 0] 34 7,Blk.dead,Blk.row (V.str [109,120,46,101,120,97,109,112,108,101]::cs) 9 1]).eb,V.bool (OV 250 (V.slice 2 0 (1+n) false 0 0) [Blk.row [V.bool false,
 V.bool false,V.bool false,V.bool false,V.bool false,V.bool false,V.int IntKind.i64 0] 34 7,Blk.dead,Blk.row (V.str [109,120,46,101,120,97,109,112,108,101]
 ::cs) 9 1]).si,V.int IntKind.i64 (OV 250 (V.slice 2 0 (1+n) false 0 0) [Blk.row [V.bool false,V.bool false,V.bool false,V.bool false,V.bool false,V.bool false,
 V.int IntKind.i64 0] 34 7,Blk.dead,Blk.row (V.str [109,120,46,101,120,97,109,112,108,101]::cs) 9 1]).mo])else False else False else False):=by kernel_rfl
def wMX:List UInt8:=[109,120,46,101,120,97,109,112,108,101]
theorem view_row{st:St}{k n c z:Nat}{ex:Bool}{q:List (List UInt8)}{t:TypeId}(hk:st[k]?=some (.row (strs q) t 1))(hn:n=q.length):viewS st (.slice k 0 n ex c z)=some (true,q):=by
 subst hn;have h1:((strs q).drop 0).take (q.length*1)=strs q:=by rw[List.drop_zero,List.take_of_length_le (by rw[strs_len];omega)]
 have h2:Nat.ble (0+q.length*1) q.length=true:=Nat.ble_eq_true_of_le (by omega);simp only[viewS,viewC,hk,h1,h2,strs_len,strs_isStr,strs_strOf,Nat.beq_refl,Bool.and_self]
theorem view_lst{st:St}{x:Value}{l:List (List UInt8)}{n:Nat}(hn:n=l.length):viewS st (.lst x n (strs l))=some (true,l):=by
 subst hn;simp only[viewS,viewC,strs_len,Nat.mul_one,Nat.beq_refl,strs_isStr,strs_strOf,Bool.and_self]
theorem of_view{st:St}{p:V}{q:List (List UInt8)}(hv:viewS st p=some (true,q))(h1:q.length≤9223372036854775807)(h2:q.all shortS=true):ofOK p st=true∧∀co,ofV co p st=ofC co q:=by
 unfold ofOK ofV;rw[hv];exact⟨by show(true&&(Nat.ble q.length 9223372036854775807&&q.all shortS))=true;rw[Nat.ble_eq_true_of_le h1,h2];rfl,fun _=>rfl⟩
def sayC(l:List (List UInt8)):CP:=linesU numV numE l cp0
theorem strs_one:∀l:List (List UInt8),(strs l).all V.one=true
 |[]=>rfl
 |_::r=>by
  have:=strs_one r;show(true&&(strs r).all V.one)=true;rw[this];rfl
theorem ofl_sat(x:Value)(l:List (List UInt8))(h1:l.length≤100000)(h2:l.all shortS=true):FnSat Tryd.prog 21 [lstS x l] [] (Is (.agg (cpV (sayC l)),[])):=by
 unfold lstS;refine pureW_of (lim:=9) (n:=20) mixed OLT_ok rfl rfl ?_;rw[ofl_tree];have key:∀(q:List (List UInt8)) (st:St) (p:V),q=wMX::l→viewS st p=some (true,q)→ofOK p st=true∧ofV 250 p st=sayC l:=fun q st p hq hv=>by
  subst hq;obtain⟨g1,g2⟩:=of_view hv (by rw[List.length_cons];omega) (by rw[List.all_cons,h2];rfl);exact⟨g1,(g2 250).trans rfl⟩
 refine bif_intro (fun h0=>?_) (fun h0=>?_)
 ·have l0:l=[]:=List.eq_nil_of_length_eq_zero (Nat.eq_of_beq_eq_true h0);subst l0;obtain⟨g1,g2⟩:=key [wMX] [.row zeV 34 7,.row (strs [wMX]) 9 1] (.slice 1 0 1 false 0 0) rfl (view_row rfl rfl);refine must_intro g1 ?_;show V.agg (cpV (ofV 250 (.slice 1 0 1 false 0 0) [.row zeV 34 7,.row (strs [wMX]) 9 1]))=_;rw[g2]
 ·obtain⟨g1,g2⟩:=key (wMX::l) [.row zeV 34 7,.dead,.row (strs (wMX::l)) 9 1] (.slice 2 0 (1+l.length) false 0 0) rfl (view_row rfl (by rw[List.length_cons];omega));refine must_intro (by rw[strs_len,strs_one,Nat.mul_one,Nat.beq_refl];rfl) (must_intro (by rw[Nat.ble_eq_true_of_le (by omega),Nat.ble_eq_true_of_le (by omega)];rfl) (must_intro g1 ?_));show V.agg (cpV (ofV 250 (.slice 2 0 (1+l.length) false 0 0) [.row zeV 34 7,.dead,.row (strs (wMX::l)) 9 1]))=_;rw[g2]
def olOK(p:V)(st:St):Bool:=match viewS st p with
 |some (b,l)=>b&&(Nat.ble l.length 100000&&l.all shortS)
 |none=>false
def olV(p:V)(st:St):CP:=match viewS st p with
 |some (_,l)=>sayC l
 |none=>cp0
def olGV(OK:V→St→Bool)(OV:V→St→CP):List V→St→Option (List (Bool×(V×St)))
 |[p],st=>some [(OK p st,(.agg (cpV (OV p st)),st))]
 |_,_=>none
theorem ol_view{st:St}{p:V}{q:List (List UInt8)}(hv:viewS st p=some (true,q))(h1:q.length≤100000)(h2:q.all shortS=true):olOK p st=true∧olV p st=sayC q:=by
 unfold olOK olV;rw[hv];exact⟨by show(true&&(Nat.ble q.length 100000&&q.all shortS))=true;rw[Nat.ble_eq_true_of_le h1,h2];rfl,rfl⟩
theorem olGV_ok(args:List V)(s:St)(L:List (Bool×(V×St)))(o:V×St)(h:olGV olOK olV args s=some L)(ho:pickO L=some o):FnSat Tryd.prog 21 args s (Is o):=by
 unfold olGV at h;split at h
 ·rename_i p;cases h;obtain⟨hb,rfl⟩:=pickO_one ho;unfold olOK at hb;split at hb
  ·rename_i b l hv;have hL:olV p s=sayC l:=by unfold olV;rw[hv]
   rw[hL];simp only[Bool.and_eq_true]at hb;obtain⟨rfl,h1,h2⟩:=hb;refine frz_sat rfl fun B W0 w m rargs hr ha=>?_;obtain⟨x1,r1,q1,q2,rfl⟩:=realL_cons ha;have q3:=realL_plain (Ψ:=Frz.of w) (m':=[]) _ _ rfl q2;exact⟨[lstS x1 l],@realL_mk _ (Frz.of w) [] _ _ _ _ (viewS_ok hr hv q1) q3,@ofl_sat (Frz.of w) x1 l (Nat.le_of_ble_eq_true h1) h2⟩
  ·cases hb
 ·cases h
structure TX where
 a1:Bool
 a2:Bool
 a3:Bool
 a4:Bool
 a5:Bool
 a6:Bool
 z:List UInt8
 cs:List V
 k:Nat
 i:Nat
theorem strs_app:∀l e:List (List UInt8),strs l++strs e=strs (l++e)
 |[],_=>rfl
 |_::r,e=>congrArg _ (strs_app r e)
end Go.Proofs.YtmcdajbfomngcaaDoor
namespace Go.Vm
end Go.Vm
namespace Go.Proofs.YtmcdajbfomngcaaDoor
open Go Go.Vm Go.RowKit
set_option linter.unusedVariables false
set_option maxRecDepth 100000
set_option linter.unusedSectionVars false
variable [Φ:Frz]
structure UN where
 c:CP
 m:Nat
 ds:List V
 i:Nat
def unVs(m i:Nat):List V:=[.ptr 0 0,.ptr 1 0,.map 2,.slice 9 1 m false 1 0,.int .i64 (m:Int),.int .i64 (i:Int)]
def unV(x:UN):List V:=unVs x.m x.i
end Go.Proofs.YtmcdajbfomngcaaDoor
namespace Go.Proofs.YtmcdajbfomngcaaDoor
open Go Go.Vm Go.RowKit
set_option linter.unusedVariables false
set_option maxRecDepth 100000
set_option linter.unusedSectionVars false
variable [Φ:Frz]
theorem vs_fits(vs:List V)(h:flatL vs=true)(l:List (Option V))(hl:l=vs.map some)(st:St):Fits 0 vs [] l st:=⟨[],vs,hl,renL_of_flat vs h,FitsM.of trivial,by simp,fun i hi=>by omega⟩
theorem lo_round(x:Value)(n:Nat)(cs:List V)(a i:Int)(R:Exit→List (Option V)→St→Prop):roundW Tryd.prog T3 9 10 (rounds 9) 19 58 [0,3,4] [.lst x n cs,.int .i64 a,.int .i64 i] [] R=
  (
 bif decide (i<(↑n:Int))then bif decide (a<9000)then bif decide (0≤i)&&decide (i<(↑n:Int))then bif (i.toNat*1).blt cs.length then bif isStrV (cs.getD
 (i.toNat*1) (V.bool false))then R Exit.normal [some (V.lst x n cs),some (V.int IntKind.i64 (IntKind.i64.wrap (IntKind.i64.wrap (a+10)+if(↑(strOfV (cs.getD
 (i.toNat*1) (V.bool false))).length:Int)<9000 then(↑(strOfV (cs.getD (i.toNat*1) (V.bool false))).length:Int)else 9000))),some (V.int IntKind.i64
 (IntKind.i64.wrap (i+1)))] []else False else False else False else R (Exit.exit 0) [some (V.lst x n cs),some (V.int IntKind.i64 a),some (V.int IntKind.i64 i)] []
 else R (Exit.exit 0) [some (V.lst x n cs),some (V.int IntKind.i64 a),some (V.int IntKind.i64 i)] []):=by kernel_rfl
def loN:Nat→List (List UInt8)→Nat
 |n,[]=>n
 |n,s::r=>if n<9000 then loN (n+10+min 9000 s.length) r else n
structure LO where
 x:Value
 n:Nat
 cs:List V
 a:Nat
 i:Nat
def loV(q:LO):List V:=[.lst q.x q.n q.cs,.int .i64 q.a,.int .i64 q.i]
def loJ(_:LO):St:=[]
def loPre(q:LO):Bool:=okS q.n q.cs&&(Nat.ble q.i q.n&&Nat.ble q.a 30000)
def loMu(q:LO):Nat:=q.n-q.i
def loDec:List (Option V)→St→Option LO
 |[some (.lst x n cs),some (.int .i64 a),some (.int .i64 0)],_=>some ⟨x,n,cs,a.toNat,0⟩
 |_,_=>none
def loS(a:Nat)(cs:List V):Nat:=loN a (cs.map strOfV)
def loOutG(x:Value)(n:Nat)(cs:List V)(a:Nat)(K:Exit→List V→St→Prop):Prop:=∀j:Nat,K (.exit 0) [.lst x n cs,.int .i64 a,.int .i64 j] []
def loOut:Asks LO:=fun q K=>loOutG q.x q.n q.cs (loS q.a (q.cs.drop q.i)) K
theorem lo_roundOk(q:LO)(hx:loPre q=true):roundW Tryd.prog T3 9 10 (rounds 9) 19 58 [0,3,4] (loV q) (loJ q) (RoundOkA 0 loPre loV loJ loMu loOut q):=by
 obtain⟨x,n,cs,a,i⟩:=q;unfold loPre at hx;simp only[Bool.and_eq_true]at hx;have hx1:okS n cs=true:=hx.1;have p1:i≤n:=Nat.le_of_ble_eq_true hx.2.1;have p0:a≤30000:=Nat.le_of_ble_eq_true hx.2.2;obtain⟨l,rfl,rfl,p2,p3⟩:=okS_spec hx1;show roundW Tryd.prog T3 9 10 (rounds 9) 19 58 [0,3,4] [.lst x l.length (strs l),.int .i64 a,.int .i64 i] [] _;rw[lo_round];have ha:∀b j,loS b ((strs l).drop j)=loN b (l.drop j):=fun b j=>by
  unfold loS;rw[List.map_drop,strs_strOf]
 have out:∀K,loOut ⟨x,l.length,strs l,a,i⟩ K→loOutG x l.length (strs l) (loN a (l.drop i)) K:=fun K hK=>by
  have hK:loOutG x l.length (strs l) (loS a ((strs l).drop i)) K:=hK;rw[ha]at hK;exact hK
 have fin:loN a (l.drop i)=a→RoundOkA 0 loPre loV loJ loMu loOut ⟨x,l.length,strs l,a,i⟩ (.exit 0) [some (.lst x l.length (strs l)),some (.int .i64 a),some (.int .i64 i)] []:=fun h=>by
  refine⟨[.lst x l.length (strs l),.int .i64 a,.int .i64 i],[],fun K hK=>?_,vs_fits _ rfl _ rfl _⟩;have hK:=out K hK;rw[h]at hK;exact hK i
 cases hd:l.drop i with
 |nil=>
  have hi:=dropA_nil hd p1;rw[decide_eq_false (show ¬((i:Int)<(l.length:Int)) by omega),cond_false];exact fin (by rw[hd];rfl)
 |cons c r=>
  obtain⟨e1,e2,e3⟩:=dropA_cons hd;obtain⟨e4,e5⟩:=strs_at hd;rw[decide_eq_true (show((i:Int)<(l.length:Int)) by omega),cond_true];refine bif_intro (fun h=>?_) (fun h=>?_)
  ·have h:=of_decide_eq_true h;have q2:decide ((0:Int)≤(i:Int))=true:=decide_eq_true (by omega);simp only[q2,Int.toNat_natCast,e4,e5,isStrV,strOfV,cond_true,Bool.and_true,show IntKind.i64.wrap ((i:Int)+1)=((i+1:Nat):Int) by rw[IntWalk.i64_in _ ⟨by omega,by omega⟩];omega];have q3:IntKind.i64.wrap (IntKind.i64.wrap ((a:Int)+10)+if(c.length:Int)<9000 then(c.length:Int)else 9000)=((a+10+min 9000 c.length:Nat):Int):=by
    rw[IntWalk.i64_in ((a:Int)+10) ⟨by omega,by omega⟩];split
    ·rw[IntWalk.i64_in _ ⟨by omega,by omega⟩];omega
    ·rw[IntWalk.i64_in _ ⟨by omega,by omega⟩];omega
   rw[q3];refine⟨⟨x,l.length,strs l,a+10+min 9000 c.length,i+1⟩,?_,vs_fits _ rfl _ rfl _,by simp only[loMu];omega,fun K hK=>?_⟩
   ·unfold loPre;simp only[Bool.and_eq_true];exact⟨hx1,Nat.ble_eq_true_of_le (show i+1≤l.length by omega),Nat.ble_eq_true_of_le (show a+10+min 9000 c.length≤30000 by omega)⟩
   ·have hK:=out K hK;show loOutG x l.length (strs l) (loS (a+10+min 9000 c.length) ((strs l).drop (i+1))) K;rw[ha,e2];rw[hd,loN,if_pos (by omega)]at hK;exact hK
  ·have h:=of_decide_eq_false h;exact fin (by rw[hd,loN,if_neg (by omega)])
noncomputable def lkLO:Nat→Trans→Trans:=withLoop 58 (loopA 0 (szOf Tryd.prog 19) [0,3,4] loDec loPre loV loJ loOut) (rounds 9)
theorem lkLO_ok:FnLoopsW Tryd.prog 0 lkLO 19:=by
 unfold lkLO;exact fnLoopW (fnRoundsW 9 0 19) (by kernel_rfl) fun f st Q h=>loopA_ok (P:=Tryd.prog) (T:=T3) (k:=0) (lim:=9) (n:=10) (g:=19) (p0:=58) (lk:=rounds 9) mixed T3_ok (roundsW 9 _ _) loMu lo_roundOk h
noncomputable def LO1:Tab:=⟨noT,noL,addLk (noLks 9) 19 0 lkLO⟩
theorem LO1_ok:TabOk3 Tryd.prog LO1:=⟨noT_ok,noL_ok,addLk_ok (noLks_ok 9) lkLO_ok⟩
theorem lo_tree(x:Value)(n:Nat)(cs:List V)(R:V→Prop):runW Tryd.prog LO1 9 10 19 [.lst x n cs] R=
  (
 Fits 0 [V.lst x n cs,V.int IntKind.i64 0,V.int IntKind.i64 0] [] [some (V.lst x n cs),some (V.int IntKind.i64 0),some (V.int IntKind.i64 0)] []∧bif loPre {x:=x,n:=n,cs:=cs,a:=0,i:=0}
 then ∀(j:Nat),R (V.bool (decide ((↑(loS 0 cs):Int)≥9000)))else False):=by kernel_rfl
def longS(l:List (List UInt8)):Bool:=decide ((loN 0 l:Int)≥9000)
theorem lo_sat(x:Value)(l:List (List UInt8))(h1:l.length≤9223372036854775807):FnSat Tryd.prog 19 [lstS x l] [] (Is (.bool (longS l),[])):=by
 refine pureW_of (lim:=9) (n:=10) mixed LO1_ok rfl rfl ?_;unfold lstS;rw[lo_tree];have hs:loS 0 (strs l)=loN 0 l:=by unfold loS;rw[strs_strOf]
 rw[hs];refine⟨vs_fits _ rfl _ rfl _,must_intro ?_ (fun j=>rfl)⟩;unfold loPre;show(okS l.length (strs l)&&(Nat.ble 0 l.length&&Nat.ble 0 30000))=true;rw[okS_mk h1];rfl
def loOK(p:V)(st:St):Bool:=match viewS st p with
 |some (b,l)=>b&&Nat.ble l.length 9223372036854775807
 |none=>false
def loB(p:V)(st:St):Bool:=match viewS st p with
 |some (_,l)=>longS l
 |none=>false
def loGV(OK LB:V→St→Bool):List V→St→Option (List (Bool×(V×St)))
 |[p],st=>some [(OK p st,(.bool (LB p st),st))]
 |_,_=>none
theorem loG_ok(args:List V)(s:St)(l:List (Bool×(V×St)))(o:V×St)(h:loGV loOK loB args s=some l)(ho:pickO l=some o):FnSat Tryd.prog 19 args s (Is o):=by
 unfold loGV at h;split at h
 ·rename_i p;cases h;obtain⟨hb,rfl⟩:=pickO_one ho;unfold loOK at hb;split at hb
  ·rename_i b ls hv;rw[Bool.and_eq_true]at hb;obtain⟨rfl,h1⟩:=hb;have hL:loB p s=longS ls:=by unfold loB;rw[hv]
   rw[hL];refine frz_sat rfl fun B W0 w m rargs hr ha=>?_;obtain⟨x,r,q1,q2,rfl⟩:=realL_cons ha;have g1:=viewS_ok hr hv q1;have q3:=realL_plain (Ψ:=Frz.of w) (m':=[]) _ _ rfl q2;exact⟨[lstS x ls],@realL_mk _ (Frz.of w) [] _ _ _ _ g1 q3,@lo_sat (Frz.of w) x ls (Nat.le_of_ble_eq_true h1)⟩
  ·cases hb
 ·cases h
end Go.Proofs.YtmcdajbfomngcaaDoor
namespace Go.Vm
def turnB(z:Bool)(c:UInt8):UInt8:=bif z then c else bif Nat.ble 97 c.toNat&&Nat.ble c.toNat 122 then c-32 else bif Nat.ble 65 c.toNat&&Nat.ble c.toNat 90 then c+32 else c
def bitW(w:Int)(i:Int):Bool:=IntKind.u64.wrap (((BitVec.ofInt 64 (w.fdiv (2^min (IntKind.u64.wrap (i.tmod 64)).toNat 64))&&&BitVec.ofInt 64 1).toNat:Nat):Int)==0
def turnF(w:Int):Nat→List UInt8→List UInt8
 |_,[]=>[]
 |i,c::r=>turnB (bitW w i) c::turnF w (i+1) r
theorem turn_len(w:Int):∀(l:List UInt8) (i:Nat),(turnF w i l).length=l.length
 |[],_=>rfl
 |_::r,i=>by rw[turnF,List.length_cons,List.length_cons,turn_len w r]
theorem turn_snoc(w:Int)(c:UInt8):∀(l:List UInt8) (i:Nat),turnF w i (l++[c])=turnF w i l++[turnB (bitW w ((i+l.length:Nat):Int)) c]
 |[],i=>rfl
 |_::r,i=>by
  show _::turnF w (i+1) (r++[c])=_;rw[turn_snoc w c r (i+1),turnF,List.length_cons,show i+1+r.length=i+(r.length+1) by omega];rfl
def tuS(w:Int)(s:List UInt8)(i:Nat):List UInt8:=turnF w 0 (s.take i)++s.drop i
theorem turn_alike(z:Bool)(c:UInt8):alike c (turnB z c):=by
 have h:∀n:Fin 256,∀z:Bool,(turnB z (UInt8.ofNat n.val)==UInt8.ofNat n.val||(decide (n.val<128)&&(decide ((turnB z (UInt8.ofNat n.val)).toNat<128)&&g8 (UInt8.ofNat n.val)==g8 (turnB z (UInt8.ofNat n.val)))))=true:=by decide+kernel
 have h:=h ⟨c.toNat,c.toNat_lt⟩ z;simp only[UInt8.ofNat_toNat,Bool.or_eq_true,Bool.and_eq_true,decide_eq_true_eq,beq_iff_eq]at h;rcases h with h|h
 ·exact .inl h.symm
 ·exact .inr ⟨h.1,h.2.1,h.2.2⟩
theorem turn_getD(w:Int):∀(l:List UInt8) (i k:Nat),alike (l.getD k 0) ((turnF w i l).getD k 0)
 |[],_,_=>.inl rfl
 |c::r,i,0=>turn_alike _ c
 |c::r,i,k+1=>by
  have:=turn_getD w r (i+1) k;simpa[turnF]using this
theorem turn_up(w:Int)(s:List UInt8):up (turnF w 0 s)=up s:=
 (up_alike s.length s (turnF w 0 s) (Nat.le_refl _) (turn_len w s 0).symm (turn_getD w s 0)).symm
end Go.Vm
namespace Go.Proofs.YtmcdajbfomngcaaDoor
open Go Go.Vm Go.RowKit
set_option linter.unusedVariables false
set_option maxRecDepth 100000
set_option linter.unusedSectionVars false
variable [Φ:Frz]
theorem tu_round(s:List UInt8)(w:Int)(k:Nat)(cs:List V)(i:Int)(R:Exit→List (Option V)→St→Prop):roundW Tryd.prog T3 9 10 (rounds 9) 20 58 [0,1,5,6] [.str s,.int .u64 w,.slice 0 0 k false 0 0,.int .i64 i] [.row cs 5 1] R=
  (
 bif decide (i<(↑k:Int))then bif decide (0≤IntKind.u64.wrap (i.tmod 64))then bif IntKind.u64.wrap (↑(BitVec.ofInt 64 (w.fdiv (2^min (IntKind.u64.wrap (i.tmod
 64)).toNat 64))&&&BitVec.ofInt 64 1).toNat:Int)==0 then R Exit.normal [some (V.str s),some (V.int IntKind.u64 w),some (V.slice 0 0 k false 0 0),some (V.int
 IntKind.i64 (IntKind.i64.wrap (i+1)))] [Blk.row cs 5 1]else bif decide (0≤i)&&decide (i<(↑k:Int))then bif (0+i.toNat*1).blt cs.length then bif isIntV
 IntKind.u8 (cs.getD (0+i.toNat*1) (V.bool false))then bif decide (intOfV (cs.getD (0+i.toNat*1) (V.bool false))≥97)then bif decide (0≤i)&&decide (i<(↑k
 :Int))then bif (0+i.toNat*1).blt cs.length then bif isIntV IntKind.u8 (cs.getD (0+i.toNat*1) (V.bool false))then bif decide (intOfV (cs.getD (0+i.toNat*1)
 (V.bool false))≤122)then bif decide (0≤i)&&decide (i<(↑k:Int))then bif (0+i.toNat*1).blt cs.length then bif isIntV IntKind.u8 (cs.getD (0+i.toNat*1)
 (V.bool false))then bif decide (0≤i)&&decide (i<(↑k:Int))then bif true&&(0+i.toNat*1+1).ble cs.length then R Exit.normal [some (V.str s),some (V.int
 IntKind.u64 w),some (V.slice 0 0 k false 0 0),some (V.int IntKind.i64 (IntKind.i64.wrap (i+1)))] [Blk.row (putAt (0+i.toNat*1) [V.int IntKind.u8 (IntKind.u8.wrap
 (intOfV (cs.getD (0+i.toNat*1) (V.bool false))-32))] cs) 5 1]else False else False else False else False else False else bif decide (0≤i)&&decide (i<(↑k:
 Int))then bif (0+i.toNat*1).blt cs.length then bif isIntV IntKind.u8 (cs.getD (0+i.toNat*1) (V.bool false))then bif decide (intOfV (cs.getD (0+i.toNat*1)
 (V.bool false))≥65)then bif decide (0≤i)&&decide (i<(↑k:Int))then bif (0+i.toNat*1).blt cs.length then bif isIntV IntKind.u8 (cs.getD (0+i.toNat*1)
 (V.bool false))then bif decide (intOfV (cs.getD (0+i.toNat*1) (V.bool false))≤90)then bif decide (0≤i)&&decide (i<(↑k:Int))then bif (0+i.toNat*1).blt
 cs.length then bif isIntV IntKind.u8 (cs.getD (0+i.toNat*1) (V.bool false))then bif decide (0≤i)&&decide (i<(↑k:Int))then bif true&&(0+i.toNat*1+
 1).ble cs.length then R Exit.normal [some (V.str s),some (V.int IntKind.u64 w),some (V.slice 0 0 k false 0 0),some (V.int IntKind.i64 (IntKind.i64.wrap (i+1)))]
 [Blk.row (putAt (0+i.toNat*1) [V.int IntKind.u8 (IntKind.u8.wrap (intOfV (cs.getD (0+i.toNat*1) (V.bool false))+32))] cs) 5 1]else False else False else False
 else False else False else R Exit.normal [some (V.str s),some (V.int IntKind.u64 w),some (V.slice 0 0 k false 0 0),some (V.int IntKind.i64 (IntKind.i64.wrap (i+1)))]
 [Blk.row cs 5 1]else False else False else False else R Exit.normal [some (V.str s),some (V.int IntKind.u64 w),some (V.slice 0 0 k false 0 0),some (V.int IntKind.i64
 (IntKind.i64.wrap (i+1)))] [Blk.row cs 5 1]else False else False else False else False else False else False else bif decide (0≤i)&&decide (i<(↑k:Int))then
 bif (0+i.toNat*1).blt cs.length then bif isIntV IntKind.u8 (cs.getD (0+i.toNat*1) (V.bool false))then bif decide (intOfV (cs.getD (0+i.toNat*1) (V.bool
 false))≥65)then bif decide (0≤i)&&decide (i<(↑k:Int))then bif (0+i.toNat*1).blt cs.length then bif isIntV IntKind.u8 (cs.getD (0+i.toNat*1) (V.bool
 false))then bif decide (intOfV (cs.getD (0+i.toNat*1) (V.bool false))≤90)then bif decide (0≤i)&&decide (i<(↑k:Int))then bif (0+i.toNat*1).blt
 cs.length then bif isIntV IntKind.u8 (cs.getD (0+i.toNat*1) (V.bool false))then bif decide (0≤i)&&decide (i<(↑k:Int))then bif true&&(0+i.toNat*1+
 1).ble cs.length then R Exit.normal [some (V.str s),some (V.int IntKind.u64 w),some (V.slice 0 0 k false 0 0),some (V.int IntKind.i64 (IntKind.i64.wrap (i+1)))]
 [Blk.row (putAt (0+i.toNat*1) [V.int IntKind.u8 (IntKind.u8.wrap (intOfV (cs.getD (0+i.toNat*1) (V.bool false))+32))] cs) 5 1]else False else False else False
 else False else False else R Exit.normal [some (V.str s),some (V.int IntKind.u64 w),some (V.slice 0 0 k false 0 0),some (V.int IntKind.i64 (IntKind.i64.wrap (i+1)))]
 [Blk.row cs 5 1]else False else False else False else R Exit.normal [some (V.str s),some (V.int IntKind.u64 w),some (V.slice 0 0 k false 0 0),some (V.int IntKind.i64
 (IntKind.i64.wrap (i+1)))] [Blk.row cs 5 1]else False else False else False else False else False else False else False else R (Exit.exit 0) [some (V.str s),some
 (V.int IntKind.u64 w),some (V.slice 0 0 k false 0 0),some (V.int IntKind.i64 i)] [Blk.row cs 5 1]):=by kernel_rfl
structure TU where
 s:List UInt8
 w:Int
 i:Nat
def tuV(x:TU):List V:=[.str x.s,.int .u64 x.w,.slice 0 0 x.s.length false 0 0,.int .i64 (x.i:Int)]
def tuJ(x:TU):St:=[.row (bys (tuS x.w x.s x.i)) 5 1]
def tuPre(x:TU):Bool:=okL x.s&&Nat.ble x.i x.s.length
def tuMu(x:TU):Nat:=x.s.length-x.i
def tuDec:List (Option V)→St→Option TU
 |[some (.str s),some (.int .u64 w),some (.slice _ 0 _ false 0 0),some (.int .i64 0)],_=>some ⟨s,w,0⟩
 |_,_=>none
def tuFV(w:Int)(s:List UInt8):List V:=bys (turnF w 0 s)
def tuOutG(s:List UInt8)(w:Int)(cs:List V)(K:Exit→List V→St→Prop):Prop:=K (.exit 0) [.str s,.int .u64 w,.slice 0 0 s.length false 0 0,.int .i64 (s.length:Int)] [.row cs 5 1]
def tuOut:Asks TU:=fun x K=>tuOutG x.s x.w (tuFV x.w x.s) K
theorem tu_fits(s:List UInt8)(w:Int)(b:List UInt8)(k:Nat)(i:Int)(r:Nat)(st:St)(hb:st[r]?=some (.row (bys b) 5 1)):Fits 0 [.str s,.int .u64 w,.slice 0 0 k false 0 0,.int .i64 i] [.row (bys b) 5 1] [some (.str s),some (.int .u64 w),some (.slice r 0 k false 0 0),some (.int .i64 i)] st:=
 ⟨[r],[.str s,.int .u64 w,.slice r 0 k false 0 0,.int .i64 i],rfl,rfl,FitsM.of ⟨fb (bys_flat b) hb,trivial⟩,by simp,fun i hi=>by omega⟩
theorem put_bys{T r:List UInt8}{c c':UInt8}{i:Nat}(hT:T.length=i){v:Int}(hv:v=(c'.toNat:Int)):putAt (0+i*1) [V.int .u8 v] (bys (T++c::r))=bys (T++c'::r):=by
 subst hv hT;unfold putAt;rw[show 0+T.length*1=T.length by omega,bys_append,bys_append];have e:(bys T).length=T.length:=bys_len T;have e1:List.take T.length (bys T++bys (c::r))=bys T:=by rw[←e,List.take_left]
 have e2:List.drop (T.length+1) (bys T++bys (c::r))=bys r:=by
  have h:bys T++bys (c::r)=(bys T++[V.int .u8 (c.toNat:Int)])++bys r:=by rw[List.append_assoc];rfl
  rw[h];exact List.drop_left' (by rw[List.length_append,e];rfl)
 rw[e1,List.length_singleton,e2];rw[List.append_assoc];rfl
theorem tu_roundOk(x:TU)(hx:tuPre x=true):roundW Tryd.prog T3 9 10 (rounds 9) 20 58 [0,1,5,6] (tuV x) (tuJ x) (RoundOkA 0 tuPre tuV tuJ tuMu tuOut x):=by
 obtain⟨s,w,i⟩:=x;unfold tuPre at hx;rw[Bool.and_eq_true]at hx;have p1:(s.length:Int)≤99999:=okL_le hx.1;have p2:i≤s.length:=Nat.le_of_ble_eq_true hx.2;show roundW Tryd.prog T3 9 10 (rounds 9) 20 58 [0,1,5,6] [.str s,.int .u64 w,.slice 0 0 s.length false 0 0,.int .i64 (i:Int)] [.row (bys (tuS w s i)) 5 1] _;rw[tu_round];cases hd:s.drop i with
 |nil=>
  have hi:=dropA_nil hd p2;rw[decide_eq_false (show ¬((i:Int)<(s.length:Int)) by omega),cond_false];refine⟨_,_,fun K hK=>?_,tu_fits s w (tuS w s i) s.length i 0 _ rfl⟩;have e:tuS w s i=turnF w 0 s:=by unfold tuS;rw[hd,List.append_nil,hi,List.take_length]
  have hK:tuOutG s w (bys (turnF w 0 s)) K:=hK;rw[←e]at hK;have hK2:=hK;unfold tuOutG at hK2;rw[←hi]at hK2;rw[hi]at hK2 ⊢;exact hK2
 |cons c r=>
  obtain⟨e1,e2,e3⟩:=dropA_cons hd;have hT:(turnF w 0 (s.take i)).length=i:=by rw[turn_len,List.length_take];omega
  have eS:tuS w s i=turnF w 0 (s.take i)++c::r:=by unfold tuS;rw[hd]
  have eN:tuS w s (i+1)=turnF w 0 (s.take i)++turnB (bitW w (i:Int)) c::r:=by
   unfold tuS;have ht:s.take (i+1)=s.take i++[c]:=by
    rw[List.take_add_one,e1];rfl
   rw[e2,ht,turn_snoc,List.length_take,Nat.min_eq_left (by omega),Nat.zero_add,List.append_assoc];rfl
  have g0:(bys (turnF w 0 (s.take i)++c::r)).getD (0+i*1) (.bool false)=.int .u8 (c.toNat:Int):=by
   rw[show 0+i*1=i by omega,bys_getD (by rw[List.length_append,hT,List.length_cons];omega)];rw[List.getD_eq_getElem?_getD,List.getElem?_append_right (by omega),hT,Nat.sub_self];rfl
  have hlen:(bys (turnF w 0 (s.take i)++c::r)).length=s.length:=by
   rw[bys_len,List.length_append,hT];have:=congrArg List.length hd;rw[List.length_drop]at this;omega
  have g1:(0+i*1).blt (bys (turnF w 0 (s.take i)++c::r)).length=true:=by rw[hlen];exact Nat.ble_eq_true_of_le (by omega)
  have g2:(0+i*1+1).ble (bys (turnF w 0 (s.take i)++c::r)).length=true:=by rw[hlen];exact Nat.ble_eq_true_of_le (by omega)
  have q1:decide ((i:Int)<(s.length:Int))=true:=decide_eq_true (by omega);have q2:decide ((0:Int)≤(i:Int))=true:=decide_eq_true (by omega);have q3:decide ((0:Int)≤IntKind.u64.wrap ((i:Int).tmod 64))=true:=decide_eq_true (by rw[IntKind.wrap_u64];omega);have w1:IntKind.i64.wrap ((i:Int)+1)=((i+1:Nat):Int):=by rw[IntWalk.i64_in _ ⟨by omega,by omega⟩];omega
  have gi:isIntV IntKind.u8 (V.int .u8 (c.toNat:Int))=true:=rfl;have gv:intOfV (V.int .u8 (c.toNat:Int))=(c.toNat:Int):=rfl;have hcl:=c.toNat_lt;have next:∀(q:List V),q=bys (tuS w s (i+1))→RoundOkA 0 tuPre tuV tuJ tuMu tuOut ⟨s,w,i⟩ .normal [some (.str s),some (.int .u64 w),some (.slice 0 0 s.length false 0 0),some (.int .i64 ((i+1:Nat):Int))] [.row q 5 1]:=fun q hq=>by
   subst hq;refine⟨⟨s,w,i+1⟩,?_,tu_fits s w _ _ _ 0 _ rfl,by simp only[tuMu];omega,fun K hK=>hK⟩;unfold tuPre;rw[Bool.and_eq_true];exact⟨hx.1,Nat.ble_eq_true_of_le (show i+1≤s.length by omega)⟩
  have bit:∀b:Bool,(IntKind.u64.wrap (((BitVec.ofInt 64 (w.fdiv (2^min (IntKind.u64.wrap ((i:Int).tmod 64)).toNat 64))&&&BitVec.ofInt 64 1).toNat:Nat):Int)==0)=b→bitW w (i:Int)=b:=fun b h=>h;rw[eS];simp only[q1,q2,q3,Int.toNat_natCast,cond_true,Bool.true_and,w1,g0,g1,g2,gi,gv];refine bif_intro (fun hz=>next _ (by rw[eN,bit _ hz];rfl)) (fun hz=>?_);rw[bit _ hz]at eN;refine bif_intro (fun h1=>?_) (fun h1=>?_)
  ·have h1:=of_decide_eq_true h1;refine bif_intro (fun h2=>?_) (fun h2=>?_)
   ·have h2:=of_decide_eq_true h2;refine next _ ?_
    have et:turnB false c=c-32:=by
     unfold turnB;rw[cond_false,Nat.ble_eq_true_of_le (by omega),Nat.ble_eq_true_of_le (by omega)];rfl
    rw[eN,et];refine put_bys hT ?_;rw[IntWalk.u8_in _ ⟨by omega,by omega⟩,UInt8.toNat_sub_of_le _ _ (by show(32:UInt8).toNat≤c.toNat;simp;omega)];simp;omega
   ·have h2:=of_decide_eq_false h2;have et:turnB false c=c:=by
     unfold turnB;have n1:Nat.ble c.toNat 122=false:=by cases hb:Nat.ble c.toNat 122 with
      |false=>rfl
      |true=>exact absurd (Nat.le_of_ble_eq_true hb) (by omega)
     have n2:Nat.ble c.toNat 90=false:=by cases hb:Nat.ble c.toNat 90 with
      |false=>rfl
      |true=>exact absurd (Nat.le_of_ble_eq_true hb) (by omega)
     rw[cond_false,n1,Bool.and_false,cond_false,n2,Bool.and_false,cond_false]
    refine bif_intro (fun h3=>bif_intro (fun h4=>absurd (of_decide_eq_true h4) (by omega)) (fun h4=>next _ (by rw[eN,et]))) (fun h3=>next _ (by rw[eN,et]))
  ·have h1:=of_decide_eq_false h1;have n0:Nat.ble 97 c.toNat=false:=by cases hb:Nat.ble 97 c.toNat with
    |false=>rfl
    |true=>exact absurd (Nat.le_of_ble_eq_true hb) (by omega)
   refine bif_intro (fun h3=>?_) (fun h3=>?_)
   ·have h3:=of_decide_eq_true h3;refine bif_intro (fun h4=>?_) (fun h4=>?_)
    ·have h4:=of_decide_eq_true h4;refine next _ ?_
     have et:turnB false c=c+32:=by
      unfold turnB;rw[cond_false,n0,Bool.false_and,cond_false,Nat.ble_eq_true_of_le (by omega),Nat.ble_eq_true_of_le (by omega)];rfl
     rw[eN,et];refine put_bys hT ?_;rw[IntWalk.u8_in _ ⟨by omega,by omega⟩,UInt8.toNat_add];simp;omega
    ·have h4:=of_decide_eq_false h4;have et:turnB false c=c:=by
      unfold turnB;have n2:Nat.ble c.toNat 90=false:=by cases hb:Nat.ble c.toNat 90 with
       |false=>rfl
       |true=>exact absurd (Nat.le_of_ble_eq_true hb) (by omega)
      rw[cond_false,n0,Bool.false_and,cond_false,n2,Bool.and_false,cond_false]
     exact next _ (by rw[eN,et])
   ·have h3:=of_decide_eq_false h3;have et:turnB false c=c:=by
     unfold turnB;have n2:Nat.ble 65 c.toNat=false:=by cases hb:Nat.ble 65 c.toNat with
      |false=>rfl
      |true=>exact absurd (Nat.le_of_ble_eq_true hb) (by omega)
     rw[cond_false,n0,Bool.false_and,cond_false,n2,Bool.false_and,cond_false]
    exact next _ (by rw[eN,et])
noncomputable def lkTU:Nat→Trans→Trans:=withLoop 58 (loopA 0 (szOf Tryd.prog 20) [0,1,5,6] tuDec tuPre tuV tuJ tuOut) (rounds 9)
theorem lkTU_ok:FnLoopsW Tryd.prog 0 lkTU 20:=by
 unfold lkTU;exact fnLoopW (fnRoundsW 9 0 20) (by kernel_rfl) fun f st Q h=>loopA_ok (P:=Tryd.prog) (T:=T3) (k:=0) (lim:=9) (n:=10) (g:=20) (p0:=58) (lk:=rounds 9) mixed T3_ok (roundsW 9 _ _) tuMu tu_roundOk h
noncomputable def TUT:Tab:=⟨noT,noL,addLk (noLks 9) 20 0 lkTU⟩
theorem TUT_ok:TabOk3 Tryd.prog TUT:=⟨noT_ok,noL_ok,addLk_ok (noLks_ok 9) lkTU_ok⟩
theorem tu_tree(s:List UInt8)(w:Int)(R:V→Prop):runW Tryd.prog TUT 9 10 20 [.str s,.int .u64 w] R=
  (
 bif s.length.ble 281474976710656 then Fits 0 [V.str s,V.int IntKind.u64 w,V.slice 0 0 s.length false 0 0,V.int IntKind.i64 0] [Blk.row (bys (tuS w s 0)) 5 1] [some
 (V.str s),some (V.int IntKind.u64 w),some (V.slice 0 0 s.length false 0 0),some (V.int IntKind.i64 0)] [Blk.row (List.map (fun b=>V.int IntKind.u8 (↑b.toNat:Int))
 s) 5 1]∧bif tuPre {s:=s,w:=w,i:=0}then bif (0+s.length).ble (tuFV w s).length then bif (List.take s.length (List.drop 0 (tuFV w s))).all isByte then R
 (V.str (List.map Vm.byteOf (List.take s.length (List.drop 0 (tuFV w s)))))else False else False else False else False):=by kernel_rfl
def turnT:List V→Option (List (Bool×(V×St)))
 |[.str s,.int .u64 w]=>some [(okL s,(.str (turnF w 0 s),[]))]
 |_=>none
theorem turn_ok(args:List V)(L:List (Bool×(V×St)))(o:V×St)(h:turnT args=some L)(ho:pickO L=some o):FnSat Tryd.prog 20 args [] (Is o):=by
 unfold turnT at h;split at h
 ·rename_i s w;cases h;obtain⟨hk,rfl⟩:=pickO_one ho;have hl:=okL_le hk;refine pureW_of (lim:=9) (n:=10) mixed TUT_ok rfl rfl ?_;rw[tu_tree];have e0:tuS w s 0=s:=by unfold tuS;rw[List.take_zero,List.drop_zero];rfl
  have e1:tuFV w s=bys (turnF w 0 s):=rfl;have e2:List.take s.length (List.drop 0 (bys (turnF w 0 s)))=bys (turnF w 0 s):=by rw[List.drop_zero,List.take_of_length_le (by rw[bys_len,turn_len];exact Nat.le_refl _)]
  rw[e0,e1,e2,byteOf_bys,isByte_bys,bys_len,turn_len,Nat.zero_add];refine must_intro (Nat.ble_eq_true_of_le (by omega)) ⟨tu_fits s w s s.length 0 0 _ rfl,must_intro ?_ (must_intro (Nat.ble_eq_true_of_le (Nat.le_refl _)) (must_intro rfl rfl))⟩;unfold tuPre;rw[hk];rfl
 ·cases h
end Go.Proofs.YtmcdajbfomngcaaDoor
