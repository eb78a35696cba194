/- Parts of this work: what the functions come to. -/
import Derived.Test.YtmcdajbfomngcaaDoorVmc
import Derived.Test.YtmcdajbfomngcaaDoorVmd
import Derived.Test.YtmcdajbfomngcaaDoorRows
import Derived.KernelRfl
import Derived.IntWalk
import Derived.Lib.ItoaNum
import Derived.Lib.AtoiAll
import Derived.Lib.AtoiErrMem
import Derived.Shelf.Strconv.AtoiAll
import Derived.Test.YtmcdajbfomngcaaDoorProg
import Derived.Lib.LaidTab
import Derived.Lib.AppendIntMem
import Derived.Shelf.Strconv.Itoa3
import Derived.Lib.MapLaws
import Derived.Lib.TrimAscii
import Derived.ProofKit
import Derived.WalkKit
import Derived.Shelf.Strings.MapAny
namespace Go.Proofs.YtmcdajbfomngcaaDoor
open Go Go.Vm Go.RowKit
set_option linter.unusedVariables false
set_option linter.unusedSectionVars false
variable [Φ:Frz]
theorem mixed:Tryd.prog.follows .mixedOrders=true:=by kernel_rfl
def powC:List V:=[.int .u64 1,.int .u64 10,.int .u64 100,.int .u64 1000,.int .u64 10000,.int .u64 100000,.int .u64 1000000,.int .u64 10000000,.int .u64 100000000,.int .u64 1000000000,.int .u64 10000000000,.int .u64 100000000000,.int .u64 1000000000000,.int .u64 10000000000000,.int .u64 100000000000000,.int .u64 1000000000000000,.int .u64 10000000000000000,.int .u64 100000000000000000,.int .u64 1000000000000000000,.int .u64 10000000000000000000]
instance gl:Glob:={n:=9,cells:=fun|2=>some firstC|3=>some accC|6=>some powC|_=>none,more:=fun _=>(0,0),full:=fun|6=>true|_=>false,ifc:=fun|5=>true|_=>false}
end Go.Proofs.YtmcdajbfomngcaaDoor
namespace Go.Proofs.YtmcdajbfomngcaaDoor
open Go Go.Vm Go.RowKit
set_option linter.unusedVariables false
set_option maxRecDepth 100000
set_option linter.unusedSectionVars false
variable [Φ:Frz]
noncomputable def T3:Tab:=⟨noT,noL,noLks 9⟩
theorem T3_ok:TabOk3 Tryd.prog T3:=⟨noT_ok,noL_ok,noLks_ok 9⟩
def okL(s:List UInt8):Bool:=decide ((s.length:Int)≤99999)
theorem okL_le{s:List UInt8}(h:okL s=true):(s.length:Int)≤99999:=of_decide_eq_true h
noncomputable def lookT(g:Nat)(lk:Nat→Trans→Trans)(args:List V)(st:St)(R:V→St→Prop):Prop:=fnK Tryd.prog (cqT Tryd.prog T3 9 10) (KG Tryd.prog T3 9 10) lk g args st R
theorem lookT_ok{g:Nat}{lk:Nat→Trans→Trans}{args:List V}{st:St}{R:V→St→Prop}(hl:FnLoopsW Tryd.prog st.length lk g)(h:lookT g lk args st R):FnSat Tryd.prog g args st R:=
 fnKW_ok mixed (cqT_ok mixed T3_ok 9 10) (KG_ok mixed T3_ok 10) hl h
end Go.Proofs.YtmcdajbfomngcaaDoor
namespace Go.Vm
open Go.RowKit
set_option linter.unusedSectionVars false
variable [Φ:Frz]
def bys(l:List UInt8):List V:=l.map fun b=>.int .u8 (b.toNat:Int)
theorem bys_len(l:List UInt8):(bys l).length=l.length:=by unfold bys;rw[List.length_map]
theorem bys_append(l r:List UInt8):bys (l++r)=bys l++bys r:=by unfold bys;rw[List.map_append]
theorem bys_flat:∀l:List UInt8,flatL (bys l)=true
 |[]=>rfl
 |c::r=>by
  have ih:=bys_flat r;unfold bys at ih ⊢;rw[List.map_cons,flatL,ih];rfl
theorem bys_getD{l:List UInt8}{i:Nat}(h:i<l.length):(bys l).getD i (.bool false)=.int .u8 ((l.getD i 0).toNat:Int):=by
 rw[List.getD_eq_getElem?_getD,List.getD_eq_getElem?_getD,List.getElem?_eq_getElem h];unfold bys;rw[List.getElem?_map,List.getElem?_eq_getElem h];rfl
theorem byteOf_bys(l:List UInt8):(bys l).map byteOf=l:=by
 unfold bys;rw[List.map_map]
 conv=>rhs;rw[←List.map_id l]
 apply List.map_congr_left;intro b _;show byteOf (.int .u8 (b.toNat:Int))=b;unfold byteOf;simp
theorem isByte_bys(l:List UInt8):(bys l).all isByte=true:=by
 unfold bys;rw[List.all_map,List.all_eq_true];intro b _;rfl
theorem fb{σ:List Nat}{st:St}{c:Nat}{cs:List V}{t:TypeId}{sz:Nat}(h:flatL cs=true)(hc:st[c]?=some (.row cs t sz)):Blk.row cs t sz=.dead∨∃b',FitB σ (.row cs t sz) b'∧st[c]?=some b':=
 .inr ⟨.row cs t sz,.inl (by simp only[renB,renL_of_flat _ h]),hc⟩
end Go.Vm
namespace Go.Vm
open Go.RowKit
set_option linter.unusedSectionVars false
variable [Φ:Frz]
theorem drop_nil{s:List UInt8}{i:Nat}(h:s.drop i=[])(hi:i≤s.length):i=s.length:=by
 have:(s.drop i).length=0:=by rw[h];rfl
 rw[List.length_drop]at this;omega
end Go.Vm
namespace Go.Vm
open Go.Lib
def isD(b:UInt8):Bool:=Nat.ble 48 b.toNat&&Nat.ble b.toNat 57
theorem isD_iff(b:UInt8):isD b=true↔48≤b.toNat∧b.toNat≤57:=by
 unfold isD;rw[Bool.and_eq_true];exact⟨fun h=>⟨Nat.le_of_ble_eq_true h.1,Nat.le_of_ble_eq_true h.2⟩,fun h=>⟨Nat.ble_eq_true_of_le h.1,Nat.ble_eq_true_of_le h.2⟩⟩
def digV(b:UInt8):Nat:=b.toNat-48
def stepD(a:Nat)(c:UInt8):Nat:=a*10+digV c
def numF(acc:Nat)(l:List UInt8):Nat:=l.foldl stepD acc
theorem numF_nil(acc:Nat):numF acc []=acc:=by unfold numF;exact List.foldl_nil ..
theorem numF_cons(acc:Nat)(c:UInt8)(r:List UInt8):numF acc (c::r)=numF (stepD acc c) r:=by unfold numF;exact List.foldl_cons ..
theorem numF_le:∀(l:List UInt8) (acc:Nat),acc≤numF acc l
 |[],acc=>by rw[numF_nil];exact Nat.le_refl _
 |c::r,acc=>by
  have:=numF_le r (stepD acc c);have e:stepD acc c=acc*10+digV c:=rfl;rw[numF_cons];omega
theorem numF_append:∀(l r:List UInt8) (acc:Nat),numF acc (l++r)=numF (numF acc l) r
 |[],r,acc=>by rw[numF_nil,List.nil_append]
 |c::l,r,acc=>by rw[List.cons_append,numF_cons,numF_cons];exact numF_append l r _
theorem parse_dig:∀(l:List UInt8) (acc:Nat),l.all isD=true→acc<18446744073709551616→parseUint10 acc l=if numF acc l<18446744073709551616 then .ok (numF acc l)else .range
 |[],acc,_,h=>by rw[numF_nil,if_pos h];rfl
 |c::r,acc,hd,h=>by
  simp only[List.all_cons,Bool.and_eq_true]at hd;have hc:=(isD_iff c).1 hd.1;rw[numF_cons];simp only[parseUint10];rw[if_pos hc];have hle:=numF_le r (stepD acc c);have hdv:stepD acc c=acc*10+(c.toNat-48):=rfl;by_cases h1:1844674407370955162≤acc
  ·rw[if_pos h1,if_neg (by omega)]
  ·rw[if_neg h1];by_cases h2:18446744073709551616≤acc*10+(c.toNat-48)
   ·rw[if_pos h2,if_neg (by omega)]
   ·rw[if_neg h2];rw[hdv];exact parse_dig r _ hd.2 (by omega)
theorem atoi_dig{s:List UInt8}(hs:s≠[])(hd:s.all isD=true):atoiAll s=if numF 0 s<9223372036854775808 then .ok (numF 0 s:Int)else .range:=by
 cases s with
 |nil=>exact absurd rfl hs
 |cons c r=>
  have hc:=(isD_iff c).1 (by simp only[List.all_cons,Bool.and_eq_true]at hd;exact hd.1);have h1:¬(c.toNat=43∨c.toNat=45):=by omega
  have h2:¬c.toNat=45:=by omega
  unfold atoiAll;simp only[if_neg h1,parseMag,if_neg hs,parse_dig (c::r) 0 hd (by omega)];by_cases h3:numF 0 (c::r)<18446744073709551616
  ·rw[if_pos h3];simp only[h2,not_false_eq_true,true_and,false_and,if_false];by_cases h4:numF 0 (c::r)<9223372036854775808
   ·rw[if_neg (by omega),if_pos h4]
   ·rw[if_pos (by omega),if_neg h4]
  ·rw[if_neg h3,if_neg (by omega)]
def trimL(p:UInt8→Bool):List UInt8→List UInt8
 |[]=>[]
 |c::r=>bif p c then trimL p r else c::r
def trimR(p:UInt8→Bool)(s:List UInt8):List UInt8:=(trimL p s.reverse).reverse
theorem trimL_nil{p:UInt8→Bool}:∀{s:List UInt8},trimL p s=[]↔s.all p=true
 |[]=>by simp[trimL]
 |c::r=>by
  cases h:p c with
  |true=>simp[trimL,h,trimL_nil (s:=r)]
  |false=>simp[trimL,h]
theorem trimL_all{p:UInt8→Bool}:∀{s:List UInt8},(trimL p s).all p=s.all p
 |[]=>by simp[trimL]
 |c::r=>by
  cases h:p c with
  |true=>simp[trimL,h,trimL_all (s:=r)]
  |false=>simp[trimL,h]
theorem trimR_all{p:UInt8→Bool}{s:List UInt8}:(trimR p s).all p=s.all p:=by
 unfold trimR;rw[List.all_reverse,trimL_all,List.all_reverse]
theorem trim_nil{p:UInt8→Bool}{s:List UInt8}:trimL p (trimR p s)=[]↔s.all p=true:=by rw[trimL_nil,trimR_all]
theorem trimR_snoc{p:UInt8→Bool}{s:List UInt8}(h:s≠[]):trimR p s=bif p (s.getD (s.length-1) 0)then trimR p (s.take (s.length-1))else s:=by
 have e:s=s.take (s.length-1)++[s.getD (s.length-1) 0]:=by
  have hl:0<s.length:=List.length_pos_iff.2 h;rw[List.getD_eq_getElem?_getD,List.getElem?_eq_getElem (by omega:s.length-1<s.length),Option.getD_some];rw[List.take_append_getElem (by omega),Nat.sub_add_cancel hl,List.take_length]
 cases hp:p (s.getD (s.length-1) 0)with
 |true=>
  rw[cond_true]
  conv=>lhs;rw[e]
  unfold trimR;rw[List.reverse_append,List.reverse_singleton,List.singleton_append,trimL,hp,cond_true]
 |false=>
  rw[cond_false]
  conv=>lhs;rw[e]
  unfold trimR;rw[List.reverse_append,List.reverse_singleton,List.singleton_append,trimL,hp,cond_false]
  conv=>rhs;rw[e]
  simp
/-- Is it a number's text: digits alone, no 0 ahead of others? -/
def okNum(s:List UInt8):Bool:=!(Nat.beq s.length 0)&&(!(Nat.ble 2 s.length&&Nat.beq (s.getD 0 0).toNat 48)&&s.all isD)
def numV(s:List UInt8)(most:Int):Int:=bif okNum s&&decide ((numF 0 s:Int)≤most)then(numF 0 s:Int)else 0
def numE(s:List UInt8)(most:Int):Int:=bif okNum s then bif decide ((numF 0 s:Int)≤most)then 0 else 40 else 4
def showD(u:Nat)(acc:List UInt8):List UInt8:=bif Nat.ble u 9 then acc else decDigits (u/10)++acc
theorem showD_step{u:Nat}(h:9<u)(acc:List UInt8):showD (u/10) ([UInt8.ofNat (48+u/10%10)]++acc)=showD u acc:=by
 have e:Nat.ble u 9=false:=by
  cases h':Nat.ble u 9 with
  |false=>rfl
  |true=>have:=Nat.le_of_ble_eq_true h';omega
 unfold showD;rw[e,cond_false];cases h':Nat.ble (u/10) 9 with
 |true=>
  have:=Nat.le_of_ble_eq_true h';rw[cond_true,decDigits,dif_pos (by omega),Nat.mod_eq_of_lt (by omega)]
 |false=>
  have:¬u/10<10:=fun h=>by
   have:Nat.ble (u/10) 9=true:=Nat.ble_eq_true_of_le (by omega);rw[this]at h';cases h'
  rw[cond_false]
  conv=>rhs;rw[decDigits,dif_neg this]
  simp
theorem showD_top(u:Nat):showD u [UInt8.ofNat (48+u%10)]=decDigits u:=by
 unfold showD;cases h':Nat.ble u 9 with
 |true=>
  have:=Nat.le_of_ble_eq_true h';rw[cond_true,decDigits,dif_pos (by omega),Nat.mod_eq_of_lt (by omega)]
 |false=>
  have:¬u<10:=fun h=>by
   have:Nat.ble u 9=true:=Nat.ble_eq_true_of_le (by omega);rw[this]at h';cases h'
  rw[cond_false]
  conv=>rhs;rw[decDigits,dif_neg this]
end Go.Vm
namespace Go.Proofs.YtmcdajbfomngcaaDoor
open Go Go.Vm Go.RowKit
set_option linter.unusedVariables false
set_option maxRecDepth 100000
set_option linter.unusedSectionVars false
variable [Φ:Frz]
theorem tr_round(s:List UInt8)(la:List V)(R:Exit→List (Option V)→St→Prop):roundW Tryd.prog T3 9 10 (rounds 9) 52 12 [0,1,4] [.str s,.ptr 0 0,.str []] [.ro false la] R=
  (
 bif decide ((↑s.length:Int)>0)then bif decide (0≤IntKind.i64.wrap ((↑s.length:Int)-1))&&(IntKind.i64.wrap ((↑s.length:Int)-1)).toNat.blt s.length then
 bif true&&decide ((↑(s.getD (IntKind.i64.wrap ((↑s.length:Int)-1)).toNat 0).toNat:Int)<256)then bif (0+(↑(s.getD (IntKind.i64.wrap ((↑s.length:Int)-
 1)).toNat 0).toNat:Int).toNat*1).blt la.length then bif isBoolV (la.getD (0+(↑(s.getD (IntKind.i64.wrap ((↑s.length:Int)-1)).toNat 0).toNat:Int).toNat*1)
 (V.bool false))then bif !boolOfV (la.getD (0+(↑(s.getD (IntKind.i64.wrap ((↑s.length:Int)-1)).toNat 0).toNat:Int).toNat*1) (V.bool false))then R (Exit.exit 0)
 [some (V.str s),some (V.ptr 0 0),some (V.str [])] [Blk.ro false la]else bif decide (0≤IntKind.i64.wrap ((↑s.length:Int)-1))then bif true&&(IntKind.i64.wrap
 ((↑s.length:Int)-1)).toNat.ble s.length then R Exit.normal [some (V.str (List.take ((IntKind.i64.wrap ((↑s.length:Int)-1)).toNat-0) (List.drop 0 s))),some
 (V.ptr 0 0),some (V.str [])] [Blk.ro false la]else False else False else False else False else False else False else R (Exit.exit 0) [some (V.str s),some (V.ptr 0 0),
 some (V.str [])] [Blk.ro false la]):=by kernel_rfl
theorem tl_round(s:List UInt8)(la:List V)(R:Exit→List (Option V)→St→Prop):roundW Tryd.prog T3 9 10 (rounds 9) 69 12 [0,1,4] [.str s,.ptr 0 0,.str []] [.ro false la] R=
  (
 bif decide ((↑s.length:Int)>0)then bif true&&Nat.blt 0 s.length then bif true&&decide ((↑(s.getD 0 0).toNat:Int)<256)then bif (0+(↑(s.getD 0 0).toNat:
 Int).toNat*1).blt la.length then bif isBoolV (la.getD (0+(↑(s.getD 0 0).toNat:Int).toNat*1) (V.bool false))then bif !boolOfV (la.getD (0+(↑(s.getD 0 0).toNat:
 Int).toNat*1) (V.bool false))then R (Exit.exit 0) [some (V.str s),some (V.ptr 0 0),some (V.str [])] [Blk.ro false la]else bif Nat.ble 1 s.length&&s.length.ble
 s.length then R Exit.normal [some (V.str (List.take (s.length-1) (List.drop 1 s))),some (V.ptr 0 0),some (V.str [])] [Blk.ro false la]else False else False else
 False else False else False else R (Exit.exit 0) [some (V.str s),some (V.ptr 0 0),some (V.str [])] [Blk.ro false la]):=by kernel_rfl
def okT(la:List V):Bool:=flatL la&&(Nat.beq la.length 256&&la.all isBoolV)
def pT(la:List V)(b:UInt8):Bool:=boolOfV (la.getD b.toNat (.bool false))
theorem okT_flat{la:List V}(h:okT la=true):flatL la=true:=by unfold okT at h;rw[Bool.and_eq_true]at h;exact h.1
theorem okT_get{la:List V}(h:okT la=true)(b:UInt8):b.toNat.blt la.length=true∧isBoolV (la.getD b.toNat (.bool false))=true:=by
 unfold okT at h;rw[Bool.and_eq_true,Bool.and_eq_true]at h;have hl:=Nat.eq_of_beq_eq_true h.2.1;have hb:=b.toNat_lt;have hlt:b.toNat<la.length:=by rw[hl];exact hb
 refine⟨Nat.ble_eq_true_of_le hlt,?_⟩;rw[List.getD_eq_getElem?_getD,List.getElem?_eq_getElem hlt];exact List.all_eq_true.1 h.2.2 _ (List.getElem_mem hlt)
def trRL(la:List V)(s:List UInt8):List UInt8:=trimR (pT la) s
def trLL(la:List V)(s:List UInt8):List UInt8:=trimL (pT la) s
structure TR where
 s:List UInt8
 la:List V
def trV(x:TR):List V:=[.str x.s,.ptr 0 0,.str []]
def trJ(x:TR):St:=[.ro false x.la]
def trPre(x:TR):Bool:=okT x.la&&okL x.s
def trMu(x:TR):Nat:=x.s.length
def trDec:List (Option V)→St→Option TR
 |[some (.str s),some (.ptr 0 0),some (.str [])],[.ro false la]=>some ⟨s,la⟩
 |_,_=>none
def trOut:Asks TR:=fun x K=>K (.exit 0) [.str (trRL x.la x.s),.ptr 0 0,.str []] [.ro false x.la]
def tlOut:Asks TR:=fun x K=>K (.exit 0) [.str (trLL x.la x.s),.ptr 0 0,.str []] [.ro false x.la]
theorem tr_fits(la:List V)(hf:flatL la=true)(s:List UInt8):Fits 1 [.str s,.ptr 0 0,.str []] [.ro false la] [some (.str s),some (.ptr 0 0),some (.str [])] [.ro false la]:=
 ⟨[0],[.str s,.ptr 0 0,.str []],rfl,rfl,FitsM.of ⟨.inr ⟨.ro false la,.inl (by simp only[renB,renL_of_flat la hf]),rfl⟩,trivial⟩,by decide,fun i hi=>by
   match i,hi with
   |0,_=>rfl⟩
theorem tr_roundOk(x:TR)(hx:trPre x=true):roundW Tryd.prog T3 9 10 (rounds 9) 52 12 [0,1,4] (trV x) (trJ x) (RoundOkA 1 trPre trV trJ trMu trOut x):=by
 obtain⟨s,la⟩:=x;unfold trPre at hx;rw[Bool.and_eq_true]at hx;have p1:okT la=true:=hx.1;have p2:=okL_le hx.2;simp only at p2;show roundW Tryd.prog T3 9 10 (rounds 9) 52 12 [0,1,4] [.str s,.ptr 0 0,.str []] [.ro false la] _;rw[tr_round];have h256:s=[]∨s≠[]:=Classical.em _;refine bif_intro (fun hb=>?_) (fun hb=>?_)
 ·have hl:0<s.length:=by have:=of_decide_eq_true hb;omega
  have hne:s≠[]:=List.length_pos_iff.1 hl;have e0:IntKind.i64.wrap ((s.length:Int)-1)=((s.length-1:Nat):Int):=by rw[IntWalk.i64_in _ ⟨by omega,by omega⟩];omega
  rw[e0];simp only[Int.toNat_natCast,Nat.zero_add,Nat.mul_one];have hc:=okT_get p1 (s.getD (s.length-1) 0);have hlt:=(s.getD (s.length-1) 0).toNat_lt;refine must_intro (by rw[Bool.and_eq_true];exact⟨decide_eq_true (by omega),Nat.ble_eq_true_of_le (by omega)⟩) ?_;refine must_intro (by rw[Bool.true_and];exact decide_eq_true (by omega)) (must_intro hc.1 (must_intro hc.2 ?_));refine bif_intro (fun h2=>?_) (fun h2=>?_)
  ·have h2:pT la (s.getD (s.length-1) 0)=false:=by simpa[pT]using h2
   refine⟨[.str s,.ptr 0 0,.str []],[.ro false la],fun K hK=>?_,tr_fits la (okT_flat p1) s⟩;have hK:K (.exit 0) [.str (trimR (pT la) s),.ptr 0 0,.str []] [.ro false la]:=hK;rw[trimR_snoc hne,h2,cond_false]at hK;exact hK
  ·have h2:pT la (s.getD (s.length-1) 0)=true:=by simpa[pT]using h2
   refine must_intro (decide_eq_true (by omega)) (must_intro (by rw[Bool.true_and];exact Nat.ble_eq_true_of_le (by omega)) ?_);rw[List.drop_zero,Nat.sub_zero];have hk:(s.take (s.length-1)).length=s.length-1:=by rw[List.length_take];omega
   refine⟨⟨s.take (s.length-1),la⟩,?_,tr_fits la (okT_flat p1) _,?_,fun K hK=>?_⟩
   ·unfold trPre;rw[Bool.and_eq_true];exact⟨p1,decide_eq_true (by simp only[hk];omega)⟩
   ·simp only[trMu,hk];omega
   ·have hK:K (.exit 0) [.str (trimR (pT la) s),.ptr 0 0,.str []] [.ro false la]:=hK;rw[trimR_snoc hne,h2,cond_true]at hK;exact hK
 ·have hl:s.length=0:=by have:=of_decide_eq_false hb;omega
  have hs:s=[]:=List.length_eq_zero_iff.1 hl;subst hs;exact⟨[.str [],.ptr 0 0,.str []],[.ro false la],fun K hK=>hK,tr_fits la (okT_flat p1) _⟩
theorem tl_roundOk(x:TR)(hx:trPre x=true):roundW Tryd.prog T3 9 10 (rounds 9) 69 12 [0,1,4] (trV x) (trJ x) (RoundOkA 1 trPre trV trJ trMu tlOut x):=by
 obtain⟨s,la⟩:=x;unfold trPre at hx;rw[Bool.and_eq_true]at hx;have p1:okT la=true:=hx.1;have p2:=okL_le hx.2;simp only at p2;show roundW Tryd.prog T3 9 10 (rounds 9) 69 12 [0,1,4] [.str s,.ptr 0 0,.str []] [.ro false la] _;rw[tl_round];cases s with
 |nil=>exact⟨[.str [],.ptr 0 0,.str []],[.ro false la],fun K hK=>hK,tr_fits la (okT_flat p1) _⟩
 |cons c r=>
  have e1:(c::r).getD 0 0=c:=rfl;rw[e1];simp only[Int.toNat_natCast,Nat.zero_add,Nat.mul_one,List.length_cons,List.drop_succ_cons,List.drop_zero,Nat.add_sub_cancel,List.take_length];have hc:=okT_get p1 c;have hlt:=c.toNat_lt;simp only[List.length_cons]at p2;refine bif_intro (fun hb=>?_) (fun hb=>absurd (of_decide_eq_false hb) (by omega));refine must_intro (by rw[Bool.true_and];exact Nat.ble_eq_true_of_le (by omega)) (must_intro (by rw[Bool.true_and];exact decide_eq_true (by omega)) (must_intro hc.1 (must_intro hc.2 ?_)));refine bif_intro (fun h2=>?_) (fun h2=>?_)
  ·have h2:pT la c=false:=by simpa[pT]using h2
   refine⟨[.str (c::r),.ptr 0 0,.str []],[.ro false la],fun K hK=>?_,tr_fits la (okT_flat p1) _⟩;have hK:K (.exit 0) [.str (trimL (pT la) (c::r)),.ptr 0 0,.str []] [.ro false la]:=hK;rw[trimL,h2,cond_false]at hK;exact hK
  ·have h2:pT la c=true:=by simpa[pT]using h2
   refine must_intro (by rw[Bool.and_eq_true];exact⟨Nat.ble_eq_true_of_le (by omega),Nat.ble_eq_true_of_le (by omega)⟩) ?_;refine⟨⟨r,la⟩,?_,tr_fits la (okT_flat p1) _,?_,fun K hK=>?_⟩
   ·unfold trPre;rw[Bool.and_eq_true];exact⟨p1,decide_eq_true (by simp only;omega)⟩
   ·simp only[trMu,List.length_cons];omega
   ·have hK:K (.exit 0) [.str (trimL (pT la) (c::r)),.ptr 0 0,.str []] [.ro false la]:=hK;rw[trimL,h2,cond_true]at hK;exact hK
noncomputable def lkTR:Nat→Trans→Trans:=withLoop 12 (loopA 1 (szOf Tryd.prog 52) [0,1,4] trDec trPre trV trJ trOut) (rounds 9)
noncomputable def lkTL:Nat→Trans→Trans:=withLoop 12 (loopA 1 (szOf Tryd.prog 69) [0,1,4] trDec trPre trV trJ tlOut) (rounds 9)
theorem lkTR_ok:FnLoopsW Tryd.prog 1 lkTR 52:=by
 unfold lkTR;exact fnLoopW (fnRoundsW 9 1 52) (by kernel_rfl) fun f st Q h=>loopA_ok (P:=Tryd.prog) (T:=T3) (k:=1) (lim:=9) (n:=10) (g:=52) (p0:=12) (lk:=rounds 9) mixed T3_ok (roundsW 9 _ _) trMu tr_roundOk h
theorem lkTL_ok:FnLoopsW Tryd.prog 1 lkTL 69:=by
 unfold lkTL;exact fnLoopW (fnRoundsW 9 1 69) (by kernel_rfl) fun f st Q h=>loopA_ok (P:=Tryd.prog) (T:=T3) (k:=1) (lim:=9) (n:=10) (g:=69) (p0:=12) (lk:=rounds 9) mixed T3_ok (roundsW 9 _ _) trMu tl_roundOk h
theorem trf_tree(s:List UInt8)(la:List V)(R:V→St→Prop):lookT 52 lkTR [.str s,.ptr 0 0] [.ro false la] R=
  (
 Fits 1 [V.str s,V.ptr 0 0,V.str []] [Blk.ro false la] [some (V.str s),some (V.ptr 0 0),some (V.str [])] [Blk.ro false la]∧bif trPre {s:=s,la:=la}then R
 (V.str (trRL la s)) [Blk.ro false la]else False):=by kernel_rfl
theorem tlf_tree(s:List UInt8)(la:List V)(R:V→St→Prop):lookT 69 lkTL [.str s,.ptr 0 0] [.ro false la] R=
  (
 Fits 1 [V.str s,V.ptr 0 0,V.str []] [Blk.ro false la] [some (V.str s),some (V.ptr 0 0),some (V.str [])] [Blk.ro false la]∧bif trPre {s:=s,la:=la}then R
 (V.str (trLL la s)) [Blk.ro false la]else False):=by kernel_rfl
def digC:List V:=List.replicate 48 (.bool false)++(List.replicate 10 (.bool true)++List.replicate 198 (.bool false))
theorem digC_ok:okT digC=true:=by decide+kernel
theorem pT_digC:pT digC=isD:=by
 funext b;have h:∀i:Fin 256,pT digC (UInt8.ofNat i.val)=isD (UInt8.ofNat i.val):=by decide+kernel
 have:=h ⟨b.toNat,b.toNat_lt⟩;simpa using this
noncomputable def trG:List V→St→Option (List (Bool×(V×St)))
 |[.str s,.ptr 0 0],[.ro false la]=>bif eqLL la digC then some [(okL s,(.str (trimR isD s),[]))]else none
 |_,_=>none
noncomputable def tlG:List V→St→Option (List (Bool×(V×St)))
 |[.str s,.ptr 0 0],[.ro false la]=>bif eqLL la digC then some [(okL s,(.str (trimL isD s),[]))]else none
 |_,_=>none
theorem trG_ok(args:List V)(s:St)(l:List (Bool×(V×St)))(v:V)(n:St)(h:trG args s=some l)(ho:pickO l=some (v,n)):(∀b∈s,flatL b.cs=true)∧FnSat Tryd.prog 52 args s (fun u st=>Fits 0 [v] n [some u] st):=by
 unfold trG at h;split at h
 ·rename_i s la;cases he:eqLL la digC with
  |false=>rw[he]at h;cases h
  |true=>
   rw[he]at h;cases eqLL_ok _ _ he;cases h;cases hk:okL s with
   |false=>rw[hk]at ho;cases ho
   |true=>
    rw[hk]at ho;cases ho;have hf:flatL digC=true:=okT_flat digC_ok;refine⟨by simp[Blk.cs,hf],lookT_ok (lk:=lkTR) lkTR_ok ?_⟩;rw[trf_tree,trRL,pT_digC];refine⟨tr_fits digC hf s,must_intro ?_ ⟨[],[.str (trimR isD s)],rfl,rfl,FitsM.of trivial,by simp,fun i hi=>by omega⟩⟩;unfold trPre;rw[digC_ok,hk];rfl
 ·cases h
theorem tlG_ok(args:List V)(s:St)(l:List (Bool×(V×St)))(v:V)(n:St)(h:tlG args s=some l)(ho:pickO l=some (v,n)):(∀b∈s,flatL b.cs=true)∧FnSat Tryd.prog 69 args s (fun u st=>Fits 0 [v] n [some u] st):=by
 unfold tlG at h;split at h
 ·rename_i s la;cases he:eqLL la digC with
  |false=>rw[he]at h;cases h
  |true=>
   rw[he]at h;cases eqLL_ok _ _ he;cases h;cases hk:okL s with
   |false=>rw[hk]at ho;cases ho
   |true=>
    rw[hk]at ho;cases ho;have hf:flatL digC=true:=okT_flat digC_ok;refine⟨by simp[Blk.cs,hf],lookT_ok (lk:=lkTL) lkTL_ok ?_⟩;rw[tlf_tree,trLL,pT_digC];refine⟨tr_fits digC hf s,must_intro ?_ ⟨[],[.str (trimL isD s)],rfl,rfl,FitsM.of trivial,by simp,fun i hi=>by omega⟩⟩;unfold trPre;rw[digC_ok,hk];rfl
 ·cases h
noncomputable def T4:Tab:=⟨noT,addM (addM noL 52 trG) 69 tlG,noLks 20⟩
theorem T4_ok:TabOk3 Tryd.prog T4:=⟨noT_ok,addM_ok (addM_ok noL_ok trG_ok) tlG_ok,noLks_ok 20⟩
theorem trim_tree(s:List UInt8)(R:V→Prop):runW Tryd.prog T4 99 10 43 [.str s,.str [48,49,50,51,52,53,54,55,56,57]] R=
  (
 bif s==[]then R (V.str s)else bif okL s then bif okL (trimR isD s)then R (V.str (trimL isD (trimR isD s)))else False else False):=by kernel_rfl
end Go.Proofs.YtmcdajbfomngcaaDoor
namespace Go.Proofs
open Go.Shelf
def Tryd.laysC172_ren:Go.Shelf.Ren:=⟨fun|172=>44|244=>71|245=>72|247=>87|279=>88|280=>89|281=>90|282=>91|287=>102|316=>103|171=>45|205=>104|321=>113|322=>114|243=>73|246=>92|283=>105|284=>106|285=>107|286=>108|129=>116|317=>115|318=>117|319=>118|320=>119|337=>121|338=>122|n=>n,fun|9=>9|3=>3|75=>70|76=>71|4=>4|5=>5|167=>109|37=>53|0=>0|85=>110|2=>2|168=>112|53=>30|175=>125|46=>39|210=>128|127=>105|145=>140|143=>138|21=>21|171=>130|173=>133|212=>142|51=>73|20=>20|213=>143|232=>149|233=>150|80=>98|n=>n,fun|15=>4|16=>5|17=>6|18=>7|19=>8|n=>n⟩
theorem Tryd.laysC172:Go.Proofs.LaysC.n172 Tryd.prog Tryd.laysC172_ren:={
 mixed:=by kernel_rfl
 f129:=Tryd.func116.trans (congrArg some (by kernel_rfl))
 f171:=Tryd.func45.trans (congrArg some (by kernel_rfl))
 f172:=Tryd.func44.trans (congrArg some (by kernel_rfl))
 f205:=Tryd.func104.trans (congrArg some (by kernel_rfl))
 f243:=Tryd.func73.trans (congrArg some (by kernel_rfl))
 f244:=Tryd.func71.trans (congrArg some (by kernel_rfl))
 f245:=Tryd.func72.trans (congrArg some (by kernel_rfl))
 f246:=Tryd.func92.trans (congrArg some (by kernel_rfl))
 f247:=Tryd.func87.trans (congrArg some (by kernel_rfl))
 f279:=Tryd.func88.trans (congrArg some (by kernel_rfl))
 f280:=Tryd.func89.trans (congrArg some (by kernel_rfl))
 f281:=Tryd.func90.trans (congrArg some (by kernel_rfl))
 f282:=Tryd.func91.trans (congrArg some (by kernel_rfl))
 f283:=Tryd.func105.trans (congrArg some (by kernel_rfl))
 f284:=Tryd.func106.trans (congrArg some (by kernel_rfl))
 f285:=Tryd.func107.trans (congrArg some (by kernel_rfl))
 f286:=Tryd.func108.trans (congrArg some (by kernel_rfl))
 f287:=Tryd.func102.trans (congrArg some (by kernel_rfl))
 f316:=Tryd.func103.trans (congrArg some (by kernel_rfl))
 f317:=Tryd.func115.trans (congrArg some (by kernel_rfl))
 f318:=Tryd.func117.trans (congrArg some (by kernel_rfl))
 f319:=Tryd.func118.trans (congrArg some (by kernel_rfl))
 f320:=Tryd.func119.trans (congrArg some (by kernel_rfl))
 f321:=Tryd.func113.trans (congrArg some (by kernel_rfl))
 f322:=Tryd.func114.trans (congrArg some (by kernel_rfl))
 f337:=Tryd.func121.trans (congrArg some (by kernel_rfl))
 f338:=Tryd.func122.trans (congrArg some (by kernel_rfl))
 t0:=Tryd.underlying0
 a0:=Tryd.isAgg0
 z0:=Tryd.sizeOf0
 v0:=Tryd.zeroValue0
 t2:=Tryd.underlying2
 a2:=Tryd.isAgg2
 z2:=Tryd.sizeOf2
 v2:=Tryd.zeroValue2
 t3:=Tryd.underlying3
 a3:=Tryd.isAgg3
 z3:=Tryd.sizeOf3
 v3:=Tryd.zeroValue3
 t4:=Tryd.underlying4
 a4:=Tryd.isAgg4
 z4:=Tryd.sizeOf4
 v4:=Tryd.zeroValue4
 t5:=Tryd.underlying5
 a5:=Tryd.isAgg5
 z5:=Tryd.sizeOf5
 v5:=Tryd.zeroValue5
 t9:=Tryd.underlying9
 a9:=Tryd.isAgg9
 z9:=Tryd.sizeOf9
 v9:=Tryd.zeroValue9
 t20:=Tryd.underlying20
 a20:=Tryd.isAgg20
 z20:=Tryd.sizeOf20
 v20:=Tryd.zeroValue20
 t21:=Tryd.underlying21
 a21:=Tryd.isAgg21
 z21:=Tryd.sizeOf21
 v21:=Tryd.zeroValue21
 t37:=Tryd.underlying53
 a37:=Tryd.isAgg53
 z37:=Tryd.sizeOf53
 v37:=Tryd.zeroValue53
 t46:=Tryd.underlying39
 a46:=Tryd.isAgg39
 z46:=Tryd.sizeOf39
 v46:=Tryd.zeroValue39
 t51:=Tryd.underlying73
 a51:=Tryd.isAgg73
 z51:=Tryd.sizeOf73
 v51:=Tryd.zeroValue73
 t53:=Tryd.underlying30
 a53:=Tryd.isAgg30
 z53:=Tryd.sizeOf30
 v53:=Tryd.zeroValue30
 t75:=Tryd.underlying70
 a75:=Tryd.isAgg70
 z75:=Tryd.sizeOf70
 v75:=Tryd.zeroValue70
 t76:=Tryd.underlying71
 a76:=Tryd.isAgg71
 z76:=Tryd.sizeOf71
 v76:=Tryd.zeroValue71
 t85:=Tryd.underlying110
 a85:=Tryd.isAgg110
 z85:=Tryd.sizeOf110
 v85:=Tryd.zeroValue110
 t127:=Tryd.underlying105
 a127:=Tryd.isAgg105
 z127:=Tryd.sizeOf105
 v127:=Tryd.zeroValue105
 t143:=Tryd.underlying138
 a143:=Tryd.isAgg138
 z143:=Tryd.sizeOf138
 v143:=Tryd.zeroValue138
 t145:=Tryd.underlying140
 a145:=Tryd.isAgg140
 z145:=Tryd.sizeOf140
 v145:=Tryd.zeroValue140
 t167:=Tryd.underlying109
 a167:=Tryd.isAgg109
 z167:=Tryd.sizeOf109
 v167:=Tryd.zeroValue109
 t168:=Tryd.underlying112
 a168:=Tryd.isAgg112
 z168:=Tryd.sizeOf112
 v168:=Tryd.zeroValue112
 t171:=Tryd.underlying130
 a171:=Tryd.isAgg130
 z171:=Tryd.sizeOf130
 v171:=Tryd.zeroValue130
 t173:=Tryd.underlying133
 a173:=Tryd.isAgg133
 z173:=Tryd.sizeOf133
 v173:=Tryd.zeroValue133
 t175:=Tryd.underlying125
 a175:=Tryd.isAgg125
 z175:=Tryd.sizeOf125
 v175:=Tryd.zeroValue125
 t210:=Tryd.underlying128
 a210:=Tryd.isAgg128
 z210:=Tryd.sizeOf128
 v210:=Tryd.zeroValue128
 t212:=Tryd.underlying142
 a212:=Tryd.isAgg142
 z212:=Tryd.sizeOf142
 v212:=Tryd.zeroValue142
 t213:=Tryd.underlying143
 a213:=Tryd.isAgg143
 z213:=Tryd.sizeOf143
 t232:=Tryd.underlying149
 a232:=Tryd.isAgg149
 z232:=Tryd.sizeOf149
 v232:=Tryd.zeroValue149
 t233:=Tryd.underlying150
 a233:=Tryd.isAgg150
 z233:=Tryd.sizeOf150
 v233:=Tryd.zeroValue150
 g15:=by kernel_rfl
 g16:=by kernel_rfl
 g17:=by kernel_rfl
 g18:=by kernel_rfl
 g19:=by kernel_rfl
 t80:=Tryd.underlying98
 a80:=Tryd.isAgg98
 z80:=Tryd.sizeOf98
 v80:=Tryd.zeroValue98
 i0:=by kernel_rfl
 i2:=by kernel_rfl
 i3:=by kernel_rfl
 i4:=by kernel_rfl
 i5:=by kernel_rfl
 i9:=by kernel_rfl
 i20:=by kernel_rfl
 i21:=by kernel_rfl
 i37:=by kernel_rfl
 i46:=by kernel_rfl
 i51:=by kernel_rfl
 i53:=by kernel_rfl
 i75:=by kernel_rfl
 i76:=by kernel_rfl
 i80:=by kernel_rfl
 i85:=by kernel_rfl
 i127:=by kernel_rfl
 i143:=by kernel_rfl
 i145:=by kernel_rfl
 i167:=by kernel_rfl
 i168:=by kernel_rfl
 i171:=by kernel_rfl
 i173:=by kernel_rfl
 i175:=by kernel_rfl
 i210:=by kernel_rfl
 i212:=by kernel_rfl
 i232:=by kernel_rfl
 i233:=by kernel_rfl
 m15:=by kernel_rfl
 m16:=by kernel_rfl
 m17:=by kernel_rfl
 m18:=by kernel_rfl
 m19:=by kernel_rfl
 c0:=by kernel_rfl
 c2:=by kernel_rfl
 c3:=by kernel_rfl
 c4:=by kernel_rfl
 c5:=by kernel_rfl
 c9:=by kernel_rfl
 c20:=by kernel_rfl
 c21:=by kernel_rfl
 c37:=by kernel_rfl
 c46:=by kernel_rfl
 c51:=by kernel_rfl
 c53:=by kernel_rfl
 c75:=by kernel_rfl
 c76:=by kernel_rfl
 c80:=by kernel_rfl
 c85:=by kernel_rfl
 c127:=by kernel_rfl
 c143:=by kernel_rfl
 c145:=by kernel_rfl
 c167:=by kernel_rfl
 c168:=by kernel_rfl
 c171:=by kernel_rfl
 c173:=by kernel_rfl
 c175:=by kernel_rfl
 c210:=by kernel_rfl
 c212:=by kernel_rfl
 c213:=by kernel_rfl
 c232:=by kernel_rfl
 c233:=by kernel_rfl}
open Go.RowKit in
theorem Tryd.strconv_Atoi_ok(s:ByteArray)(hmax:s.size≤9223372036854775806)(v:Int)(h:Lib.atoiAll s.data.toList=.ok v)(w:World):
 Calls Tryd.prog 44 #[.string s] w fun e w'=>e=.returned (.tuple #[.int .i64 v,.nilIface])∧(w'=w∨∃t,w'=Lib.bytesWorld w 5 t):=Any.strconv_Atoi_ok Tryd.laysC172 s hmax v h w
open Go.RowKit in
theorem Tryd.strconv_Atoi_range(s:ByteArray)(hlim:s.size≤281474976710656)(h:Lib.atoiAll s.data.toList=.range)(ev:Value)(w:World)(hv:w.cell? ⟨5,0,none⟩=some ev)(hev:ev=.nilIface∨∃te pe,ev=.iface te pe):
 Calls Tryd.prog 44 #[.string s] w fun e w'=>∃N,e=.returned (.tuple #[.int .i64 (Lib.atoiSat s.data.toList),.iface 112 (.pointer (some ⟨N,0,none⟩))])∧w.heap.size≤N∧w'.heap[N]?=some (.cells #[.string ⟨#[65,116,111,105]⟩,.string s,ev] 128 (0,0))∧Below w.heap.size w w':=Any.strconv_Atoi_range Tryd.laysC172 s hlim h ev w hv hev
end Go.Proofs
namespace Go.Proofs.YtmcdajbfomngcaaDoor
open Go Go.Vm Go.RowKit
set_option linter.unusedVariables false
set_option linter.unusedSectionVars false
variable [Φ:Frz]
def okDig(s:List UInt8):Bool:=okL s&&(!(Nat.beq s.length 0)&&s.all isD)
def fitsI(s:List UInt8):Bool:=decide ((numF 0 s:Int)≤9223372036854775807)
def atoiT:List V→Option (List (Bool×(V×St)))
 |[.str s]=>some [(okDig s&&fitsI s,(.tuple [.int .i64 (numF 0 s:Int),.nilIface],[])),(okDig s,(.tuple [.int .i64 9223372036854775807,.iface 112 (.ptr 0 0)],[.dead]))]
 |_=>none
theorem okDig_spec{s:List UInt8}(h:okDig s=true):(s.length:Int)≤99999∧s≠[]∧s.all isD=true:=by
 unfold okDig at h;rw[Bool.and_eq_true,Bool.and_eq_true]at h;refine⟨okL_le h.1,fun e=>?_,h.2.2⟩;rw[e]at h;exact absurd h.2.1 (by decide)
theorem atoiSat_dig{s:List UInt8}(h:s.all isD=true):Lib.atoiSat s=9223372036854775807:=by
 unfold Lib.atoiSat;rw[if_neg];cases s with
 |nil=>simp
 |cons c r=>
  have hc:=(isD_iff c).1 (by simp only[List.all_cons,Bool.and_eq_true]at h;exact h.1);intro e;simp only[List.head?_cons,Option.map_some,Option.some.injEq]at e;omega
theorem atoi_ok(args:List V)(l:List (Bool×(V×St)))(o:V×St)(h:atoiT args=some l)(ho:pickO l=some o):FnSat Tryd.prog 44 args [] (Is o):=by
 unfold atoiT at h;split at h
 ·rename_i s;cases h;intro B W0 m w rargs hargs hr;obtain⟨a1,r1,g1,g2,rfl⟩:=realL_cons hargs;simp only[realL,Option.some.injEq]at g2;subst g2;cases real_str g1;have hsz:(ByteArray.mk s.toArray).size=s.length:=by show s.toArray.size=_;simp
  have hdat:(ByteArray.mk s.toArray).data.toList=s:=by simp
  cases hd:okDig s with
  |false=>rw[hd]at ho;cases ho
  |true=>
   obtain⟨h1,h2,h3⟩:=okDig_spec hd;have ha:=atoi_dig h2 h3;cases hf:fitsI s with
   |true=>
    rw[hd,hf]at ho;cases ho;have hle:(numF 0 s:Int)≤9223372036854775807:=of_decide_eq_true hf;rw[if_pos (by omega)]at ha;refine(Tryd.strconv_Atoi_ok ⟨s.toArray⟩ (by rw[hsz];omega) (numF 0 s:Int) (by rw[hdat];exact ha) w).mono ?_;rintro e w' ⟨rfl,hw⟩;have hb:Below w.heap.size w w':=by
     rcases hw with rfl|⟨t,rfl⟩
     ·exact Below.refl _ _
     ·exact Lib.bytesWorld_below _ _ _
    exact⟨.tuple [.int .i64 (numF 0 s:Int),.nilIface],_,m,[],rfl,Ext.refl m,rfl,hr.later hb,rfl⟩
   |false=>
    rw[hd,hf]at ho;cases ho;have hle:¬(numF 0 s:Int)≤9223372036854775807:=of_decide_eq_false hf;rw[if_neg (by omega)]at ha;have hm:m=[]:=List.eq_nil_of_length_eq_zero hr.len;subst hm;obtain⟨h31,arr,t,fz,ev,h32,h33,h34⟩:=hr.gok.2.1 5 rfl;refine(Tryd.strconv_Atoi_range ⟨s.toArray⟩ (by rw[hsz];omega) (by rw[hdat];exact ha) ev w (by rw[cell_of_row w 5 0 _ t fz h32];exact h33) h34).mono ?_;rintro e w' ⟨N,rfl,hN,_,hb⟩;have hl:=hr.later hb;refine⟨.tuple [.int .i64 9223372036854775807,.iface 112 (.ptr 0 0)],_,[⟨N,0,0,false⟩],[.dead],rfl,fun b e hb=>by simp at hb,?_,⟨rfl,hl.base,hl.below,fun i b e hb he=>?_,fun i j b c d e hij hb hrw hc hlv hd he=>?_,hl.glob⟩,rfl⟩
    ·have e1:Lib.atoiSat (ByteArray.mk s.toArray).data.toList=9223372036854775807:=by rw[hdat];exact atoiSat_dig h3
     rw[e1];simp[real,realL,at?]
    ·cases i with
     |zero=>simp only[List.getElem?_cons_zero,Option.some.injEq]at hb;subst hb;trivial
     |succ i=>simp at hb
    ·cases i with
     |zero=>simp only[List.getElem?_cons_zero,Option.some.injEq]at hb;subst hb;cases hrw
     |succ i=>simp at hb
 ·cases h
end Go.Proofs.YtmcdajbfomngcaaDoor
namespace Go.Proofs
open Go.Shelf
def Tryd.laysM171_ren:Go.Shelf.Ren:=⟨fun|171=>45|243=>73|246=>92|283=>105|284=>106|285=>107|286=>108|129=>116|317=>115|318=>117|319=>118|320=>119|337=>121|338=>122|n=>n,fun|3=>3|9=>9|2=>2|4=>4|171=>130|0=>0|53=>30|37=>53|5=>5|173=>133|212=>142|51=>73|20=>20|213=>143|46=>39|232=>149|233=>150|n=>n,fun|17=>6|18=>7|19=>8|n=>n⟩
theorem Tryd.laysM171:Go.Proofs.LaysM.n171 Tryd.prog Tryd.laysM171_ren:={
 mixed:=by kernel_rfl
 f129:=Tryd.func116.trans (congrArg some (by kernel_rfl))
 f171:=Tryd.func45.trans (congrArg some (by kernel_rfl))
 f243:=Tryd.func73.trans (congrArg some (by kernel_rfl))
 f246:=Tryd.func92.trans (congrArg some (by kernel_rfl))
 f283:=Tryd.func105.trans (congrArg some (by kernel_rfl))
 f284:=Tryd.func106.trans (congrArg some (by kernel_rfl))
 f285:=Tryd.func107.trans (congrArg some (by kernel_rfl))
 f286:=Tryd.func108.trans (congrArg some (by kernel_rfl))
 f317:=Tryd.func115.trans (congrArg some (by kernel_rfl))
 f318:=Tryd.func117.trans (congrArg some (by kernel_rfl))
 f319:=Tryd.func118.trans (congrArg some (by kernel_rfl))
 f320:=Tryd.func119.trans (congrArg some (by kernel_rfl))
 f337:=Tryd.func121.trans (congrArg some (by kernel_rfl))
 f338:=Tryd.func122.trans (congrArg some (by kernel_rfl))
 t0:=Tryd.underlying0
 a0:=Tryd.isAgg0
 z0:=Tryd.sizeOf0
 v0:=Tryd.zeroValue0
 t2:=Tryd.underlying2
 a2:=Tryd.isAgg2
 z2:=Tryd.sizeOf2
 v2:=Tryd.zeroValue2
 t3:=Tryd.underlying3
 a3:=Tryd.isAgg3
 z3:=Tryd.sizeOf3
 v3:=Tryd.zeroValue3
 t4:=Tryd.underlying4
 a4:=Tryd.isAgg4
 z4:=Tryd.sizeOf4
 v4:=Tryd.zeroValue4
 t5:=Tryd.underlying5
 a5:=Tryd.isAgg5
 z5:=Tryd.sizeOf5
 v5:=Tryd.zeroValue5
 t9:=Tryd.underlying9
 a9:=Tryd.isAgg9
 z9:=Tryd.sizeOf9
 v9:=Tryd.zeroValue9
 t20:=Tryd.underlying20
 a20:=Tryd.isAgg20
 z20:=Tryd.sizeOf20
 v20:=Tryd.zeroValue20
 t37:=Tryd.underlying53
 a37:=Tryd.isAgg53
 z37:=Tryd.sizeOf53
 v37:=Tryd.zeroValue53
 t46:=Tryd.underlying39
 a46:=Tryd.isAgg39
 z46:=Tryd.sizeOf39
 v46:=Tryd.zeroValue39
 t51:=Tryd.underlying73
 a51:=Tryd.isAgg73
 z51:=Tryd.sizeOf73
 v51:=Tryd.zeroValue73
 t53:=Tryd.underlying30
 a53:=Tryd.isAgg30
 z53:=Tryd.sizeOf30
 v53:=Tryd.zeroValue30
 t171:=Tryd.underlying130
 a171:=Tryd.isAgg130
 z171:=Tryd.sizeOf130
 v171:=Tryd.zeroValue130
 t173:=Tryd.underlying133
 a173:=Tryd.isAgg133
 z173:=Tryd.sizeOf133
 v173:=Tryd.zeroValue133
 t212:=Tryd.underlying142
 a212:=Tryd.isAgg142
 z212:=Tryd.sizeOf142
 v212:=Tryd.zeroValue142
 t213:=Tryd.underlying143
 a213:=Tryd.isAgg143
 z213:=Tryd.sizeOf143
 t232:=Tryd.underlying149
 a232:=Tryd.isAgg149
 z232:=Tryd.sizeOf149
 v232:=Tryd.zeroValue149
 t233:=Tryd.underlying150
 a233:=Tryd.isAgg150
 z233:=Tryd.sizeOf150
 v233:=Tryd.zeroValue150
 g17:=by kernel_rfl
 g18:=by kernel_rfl
 g19:=by kernel_rfl
 i0:=by kernel_rfl
 i2:=by kernel_rfl
 i3:=by kernel_rfl
 i4:=by kernel_rfl
 i5:=by kernel_rfl
 i9:=by kernel_rfl
 i20:=by kernel_rfl
 i37:=by kernel_rfl
 i46:=by kernel_rfl
 i51:=by kernel_rfl
 i53:=by kernel_rfl
 i171:=by kernel_rfl
 i173:=by kernel_rfl
 i212:=by kernel_rfl
 i232:=by kernel_rfl
 i233:=by kernel_rfl
 m17:=by kernel_rfl
 m18:=by kernel_rfl
 m19:=by kernel_rfl}
open Go.RowKit Go.Sort Go.Lib in
theorem Tryd.strconv_Itoa(n:Int)(h0:-9223372036854775808≤n)(h1:n≤9223372036854775807)(w:World)(htab:Lib.TabIs Tryd.prog w "internal/strconv.uint64pow10" .u64 Lib.pow10Tab):
 Calls Tryd.prog 45 #[.int .i64 n] w fun e w'=>e=.returned (.string ⟨(Lib.itoa n).toArray⟩)∧∃k os,w'=grow (w.drewN k) os:=Any.strconv_Itoa Tryd.laysM171 n h0 h1 w htab
end Go.Proofs
namespace Go.Proofs.YtmcdajbfomngcaaDoor
open Go Go.Vm Go.RowKit
set_option linter.unusedVariables false
set_option linter.unusedSectionVars false
variable [Φ:Frz]
theorem itoaOk:ItoaOk Tryd.prog 45 "internal/strconv.uint64pow10":=fun n w h0 h1 ht=>(Tryd.strconv_Itoa n h0 h1 w ht).mono fun e w' ⟨q,k,os,q2⟩=>⟨q,by rw[q2];exact Lib.below_grow _ w (Nat.le_refl _) k os⟩
theorem itoa_ok(args:List V)(l:List (Bool×(V×St)))(o:V×St)(h:itoaF args=some l)(ho:pickO l=some o):FnSat Tryd.prog 45 args [] (Is o):=
 itoa_sat (gv:=6) itoaOk (by kernel_rfl) ⟨rfl,rfl⟩ rfl rfl args l o h ho
end Go.Proofs.YtmcdajbfomngcaaDoor
namespace Go.Proofs.YtmcdajbfomngcaaDoor
open Go Go.Vm Go.RowKit
set_option linter.unusedVariables false
set_option maxRecDepth 100000
set_option linter.unusedSectionVars false
variable [Φ:Frz]
theorem trimL_len(p:UInt8→Bool):∀s:List UInt8,(trimL p s).length≤s.length
 |[]=>Nat.le_refl _
 |c::r=>by
  have:=trimL_len p r;rw[trimL];cases p c with
  |true=>rw[cond_true,List.length_cons];omega
  |false=>rw[cond_false];exact Nat.le_refl _
theorem okL_trimR{s:List UInt8}(p:UInt8→Bool)(h:okL s=true):okL (trimR p s)=true:=by
 have h1:=okL_le h;have h2:=trimL_len p s.reverse;rw[List.length_reverse]at h2;unfold okL trimR;rw[List.length_reverse];exact decide_eq_true (by omega)
def tens:List UInt8:=[48,49,50,51,52,53,54,55,56,57]
theorem trim_none:trimL isD (trimR isD [])=[]:=by simp[trimR,trimL]
def trimT:List V→Option (List (Bool×(V×St)))
 |[.str s,.str t]=>bif eqLL [.str t] [.str tens]then some [(okL s,(.str (trimL isD (trimR isD s)),[]))]else none
 |_=>none
theorem trim_ok(args:List V)(l:List (Bool×(V×St)))(o:V×St)(h:trimT args=some l)(ho:pickO l=some o):FnSat Tryd.prog 43 args [] (Is o):=by
 unfold trimT at h;split at h
 ·rename_i s t;cases he:eqLL [.str t] [.str tens]with
  |false=>rw[he]at h;cases h
  |true=>
   rw[he]at h;cases eqLL_ok _ _ he;cases h;cases hk:okL s with
   |false=>rw[hk]at ho;cases ho
   |true=>
    rw[hk]at ho;cases ho;refine pureW_of (lim:=99) (n:=10) mixed T4_ok rfl rfl ?_;show runW Tryd.prog T4 99 10 43 [.str s,.str [48,49,50,51,52,53,54,55,56,57]] _;rw[trim_tree];refine bif_intro (fun h=>?_) (fun h=>must_intro hk (must_intro (okL_trimR isD hk) rfl));have h:s=[]:=eq_of_beq h;rw[h,trim_none]
 ·cases h
noncomputable def T7:Tab:=⟨addT (addT noT 43 trimT) 44 atoiT,noL,noLks 9⟩
theorem T7_ok:TabOk3 Tryd.prog T7:=⟨addT_ok (addT_ok noT_ok trim_ok) atoi_ok,noL_ok,noLks_ok 9⟩
theorem cnum_tree(s:List UInt8)(most:Int)(R:V→Prop):runW Tryd.prog T7 9 10 27 [.str s,.int .i64 most] R=
  (
 bif s==[]then R (V.tuple [V.int IntKind.i64 0,V.int IntKind.i64 4])else bif decide ((↑s.length:Int)>1)then bif true&&Nat.blt 0 s.length then bif (↑(s.getD 0
 0).toNat:Int)==48 then R (V.tuple [V.int IntKind.i64 0,V.int IntKind.i64 4])else bif okL s then bif !trimL isD (trimR isD s)==[]then R (V.tuple [V.int
 IntKind.i64 0,V.int IntKind.i64 4])else bif okDig s&&fitsI s then bif decide ((↑(numF 0 s):Int)>most)then R (V.tuple [V.int IntKind.i64 0,V.int IntKind.i64 40])
 else R (V.tuple [V.int IntKind.i64 (↑(numF 0 s):Int),V.int IntKind.i64 0])else bif okDig s then R (V.tuple [V.int IntKind.i64 0,V.int IntKind.i64 40])else False
 else False else False else bif okL s then bif !trimL isD (trimR isD s)==[]then R (V.tuple [V.int IntKind.i64 0,V.int IntKind.i64 4])else bif okDig s&&fitsI s then
 bif decide ((↑(numF 0 s):Int)>most)then R (V.tuple [V.int IntKind.i64 0,V.int IntKind.i64 40])else R (V.tuple [V.int IntKind.i64 (↑(numF 0 s):Int),V.int
 IntKind.i64 0])else bif okDig s then R (V.tuple [V.int IntKind.i64 0,V.int IntKind.i64 40])else False else False):=by kernel_rfl
theorem isI64_spec{n:Int}(h:isI64 n=true):-9223372036854775808≤n∧n≤9223372036854775807:=by
 unfold isI64 at h;rw[Bool.and_eq_true]at h;exact⟨of_decide_eq_true h.1,of_decide_eq_true h.2⟩
theorem okNum_nil:okNum []=false:=rfl
theorem okNum_zero{s:List UInt8}(h1:(s.length:Int)>1)(h2:(s.getD 0 0).toNat=48):okNum s=false:=by
 unfold okNum;rw[Nat.ble_eq_true_of_le (by omega:2≤s.length),h2];simp
theorem okNum_all{s:List UInt8}(h:s.all isD=false):okNum s=false:=by
 unfold okNum;rw[h,Bool.and_false,Bool.and_false]
theorem okNum_in{s:List UInt8}(h1:s≠[])(h2:¬((s.length:Int)>1∧(s.getD 0 0).toNat=48))(h:s.all isD=true):okNum s=true:=by
 unfold okNum;have hl:0<s.length:=List.length_pos_iff.2 h1;have e1:Nat.beq s.length 0=false:=by
  cases h:Nat.beq s.length 0 with
  |false=>rfl
  |true=>have:=Nat.eq_of_beq_eq_true h;omega
 have e2:(Nat.ble 2 s.length&&Nat.beq (s.getD 0 0).toNat 48)=false:=by
  cases h:(Nat.ble 2 s.length&&Nat.beq (s.getD 0 0).toNat 48)with
  |false=>rfl
  |true=>
   rw[Bool.and_eq_true]at h;have a:=Nat.le_of_ble_eq_true h.1;have b:=Nat.eq_of_beq_eq_true h.2;exact absurd ⟨by omega,b⟩ h2
 rw[h,e1,e2];rfl
theorem num_none{s:List UInt8}{most:Int}(h:okNum s=false):numV s most=0∧numE s most=4:=by
 unfold numV numE;rw[h,Bool.false_and,cond_false,cond_false];exact⟨rfl,rfl⟩
theorem num_in{s:List UInt8}{most:Int}(h:okNum s=true)(hm:decide ((numF 0 s:Int)≤most)=true):numV s most=(numF 0 s:Int)∧numE s most=0:=by
 unfold numV numE;rw[h,hm,Bool.true_and,cond_true,cond_true,cond_true];exact⟨rfl,rfl⟩
theorem num_out{s:List UInt8}{most:Int}(h:okNum s=true)(hm:decide ((numF 0 s:Int)≤most)=false):numV s most=0∧numE s most=40:=by
 unfold numV numE;rw[h,hm,Bool.true_and,cond_false,cond_true,cond_false];exact⟨rfl,rfl⟩
theorem okDig_in{s:List UInt8}(h0:okL s=true)(h1:s≠[])(h:s.all isD=true):okDig s=true:=by
 unfold okDig;have hl:0<s.length:=List.length_pos_iff.2 h1;have e1:Nat.beq s.length 0=false:=by
  cases h:Nat.beq s.length 0 with
  |false=>rfl
  |true=>have:=Nat.eq_of_beq_eq_true h;omega
 rw[h0,h,e1];rfl
def numT:List V→Option (List (Bool×(V×St)))
 |[.str s,.int .i64 most]=>some [(okL s&&isI64 most,(.tuple [.int .i64 (numV s most),.int .i64 (numE s most)],[]))]
 |_=>none
theorem dec_len:∀(k u:Nat),1≤k→u<10^k→(Lib.decDigits u).length≤k:=by
 intro k
 induction k with
 |zero=>intro u h;omega
 |succ k ih=>
  intro u _ hu;rw[Lib.decDigits];split
  ·rw[List.length_singleton];omega
  ·rename_i h;rw[List.length_append,List.length_singleton];rcases Nat.eq_zero_or_pos k with hk|hk
   ·subst hk;omega
   ·have:=ih (u/10) hk (by rw[Nat.pow_succ]at hu;omega);omega
theorem okL_itoa{n:Int}(h:isI64 n=true):okL (Lib.itoa n)=true:=by
 have hn:=isI64_spec h;have e:(10:Nat)^24=1000000000000000000000000:=rfl;unfold Lib.itoa okL;split
 ·have:=dec_len 24 n.natAbs (by omega) (by omega);exact decide_eq_true (by rw[List.length_cons];omega)
 ·have:=dec_len 24 n.toNat (by omega) (by omega);exact decide_eq_true (by omega)
theorem cnum_ok(args:List V)(l:List (Bool×(V×St)))(o:V×St)(h:numT args=some l)(ho:pickO l=some o):FnSat Tryd.prog 27 args [] (Is o):=by
 unfold numT at h;split at h
 ·rename_i s most;cases h;cases hk:(okL s&&isI64 most)with
  |false=>rw[hk]at ho;cases ho
  |true=>
   rw[hk]at ho;cases ho;rw[Bool.and_eq_true]at hk;refine pureW_of (lim:=9) (n:=10) mixed T7_ok rfl rfl ?_;rw[cnum_tree];refine bif_intro (fun hs=>?_) (fun hs=>?_)
   ·have hs:s=[]:=eq_of_beq hs;rw[hs,(num_none okNum_nil).1,(num_none okNum_nil).2]
   have hne:s≠[]:=fun e=>by rw[e]at hs;cases hs
   refine bif_intro (fun h1=>must_intro ?_ (bif_intro (fun h2=>?_) (fun h2=>?_))) (fun h1=>?_)
   ·rw[Bool.true_and];exact Nat.ble_eq_true_of_le (List.length_pos_iff.2 hne)
   ·have ho:=okNum_zero (of_decide_eq_true h1) (by have:=eq_of_beq h2;omega);rw[(num_none ho).1,(num_none ho).2]
   ·have hz:¬((s.length:Int)>1∧(s.getD 0 0).toNat=48):=fun⟨_,e⟩=>by rw[e]at h2;cases h2
    clear h1 h2;refine must_intro hk.1 (bif_intro (fun ha=>?_) (fun ha=>?_))
    ·have ha:s.all isD=false:=by
      cases h:s.all isD with
      |false=>rfl
      |true=>
       rw[trim_nil.2 h]at ha;cases ha
     have ho:=okNum_all ha;rw[(num_none ho).1,(num_none ho).2]
    ·have ha:s.all isD=true:=by
      refine trim_nil.1 ?_;cases h:(trimL isD (trimR isD s)==[])with
      |true=>exact eq_of_beq h
      |false=>rw[h]at ha;cases ha
     have ho:=okNum_in hne hz ha;have hd:okDig s=true:=okDig_in hk.1 hne ha;rw[hd];refine bif_intro (fun hf=>bif_intro (fun hm=>?_) (fun hm=>?_)) (fun hf=>?_)
     ·have hm:decide ((numF 0 s:Int)≤most)=false:=decide_eq_false (by have:=of_decide_eq_true hm;omega);rw[(num_out ho hm).1,(num_out ho hm).2]
     ·have hm:decide ((numF 0 s:Int)≤most)=true:=decide_eq_true (by have:=of_decide_eq_false hm;omega);rw[(num_in ho hm).1,(num_in ho hm).2]
     ·refine must_intro rfl ?_;have hf:fitsI s=false:=hf;have hm:decide ((numF 0 s:Int)≤most)=false:=decide_eq_false (by have:=of_decide_eq_false hf;have:=(isI64_spec hk.2).2;omega);rw[(num_out ho hm).1,(num_out ho hm).2]
   ·have hz:¬((s.length:Int)>1∧(s.getD 0 0).toNat=48):=fun⟨e,_⟩=>of_decide_eq_false h1 e;clear h1;refine must_intro hk.1 (bif_intro (fun ha=>?_) (fun ha=>?_))
    ·have ha:s.all isD=false:=by
      cases h:s.all isD with
      |false=>rfl
      |true=>
       rw[trim_nil.2 h]at ha;cases ha
     have ho:=okNum_all ha;rw[(num_none ho).1,(num_none ho).2]
    ·have ha:s.all isD=true:=by
      refine trim_nil.1 ?_;cases h:(trimL isD (trimR isD s)==[])with
      |true=>exact eq_of_beq h
      |false=>rw[h]at ha;cases ha
     have ho:=okNum_in hne hz ha;have hd:okDig s=true:=okDig_in hk.1 hne ha;rw[hd];refine bif_intro (fun hf=>bif_intro (fun hm=>?_) (fun hm=>?_)) (fun hf=>?_)
     ·have hm:decide ((numF 0 s:Int)≤most)=false:=decide_eq_false (by have:=of_decide_eq_true hm;omega);rw[(num_out ho hm).1,(num_out ho hm).2]
     ·have hm:decide ((numF 0 s:Int)≤most)=true:=decide_eq_true (by have:=of_decide_eq_false hm;omega);rw[(num_in ho hm).1,(num_in ho hm).2]
     ·refine must_intro rfl ?_;have hf:fitsI s=false:=hf;have hm:decide ((numF 0 s:Int)≤most)=false:=decide_eq_false (by have:=of_decide_eq_false hf;have:=(isI64_spec hk.2).2;omega);rw[(num_out ho hm).1,(num_out ho hm).2]
 ·cases h
end Go.Proofs.YtmcdajbfomngcaaDoor
namespace Go.Vm
open Go.Lib
def isUp(b:UInt8):Bool:=Nat.blt b.toNat 97
theorem mapD_up(f:Int→Int)(hf:∀c:Nat,c<97→f c=c):∀l:List UInt8,l.all isUp=true→mapD f l=l
 |[],_=>mapD_nil f
 |b::r,h=>by
  rw[List.all_cons,Bool.and_eq_true]at h;have hb:b.toNat<97:=Nat.le_of_ble_eq_true h.1;have hd:=decodeL_ascii b r (by omega);rw[mapD_same f (b::r) (by simp) (by rw[hd];exact hf _ hb) (by rw[hd];intro⟨_,h2⟩;simp_all),hd];show[b]++mapD f r=b::r;rw[mapD_up f hf r h.2];rfl
end Go.Vm
namespace Go.Vm
open Go.Lib
end Go.Vm
namespace Go.Vm
structure CP where
 st:Bool
 pi:Bool
 rq:Bool
 ds:Bool
 eb:Bool
 si:Bool
 mo:Int
def cp0:CP:=⟨false,false,false,false,false,false,0⟩
def wST:List UInt8:=[83,84,65,82,84,84,76,83]
def wPI:List UInt8:=[80,73,80,69,76,73,78,73,78,71]
def wRQ:List UInt8:=[82,69,81,85,73,82,69,84,76,83]
def wDS:List UInt8:=[68,83,78]
def wEB:List UInt8:=[56,66,73,84,77,73,77,69]
def wSI:List UInt8:=[83,73,90,69]
def wSZ:List UInt8:=[83,73,90,69,32]
def setW(u:List UInt8)(c:CP):CP:=⟨c.st||u==wST,c.pi||u==wPI,c.rq||u==wRQ,c.ds||u==wDS,c.eb||u==wEB,c.si||u==wSI,c.mo⟩
def lineU(NV NE:List UInt8→Int→Int)(u:List UInt8)(c:CP):CP:=
 bif (u.take 5==wSZ)&&!(NE (u.drop 5) 1099511627776==4)then{setW u c with si:=true,mo:=bif c.mo==0 then NV (u.drop 5) 1099511627776 else c.mo}else setW u c
def linesU(NV NE:List UInt8→Int→Int):List (List UInt8)→CP→CP
 |[],c=>c
 |s::r,c=>linesU NV NE r (lineU NV NE (up s) c)
def sizeT(mo:Int):List UInt8:=bif decide (1≤mo)&&decide (mo≤1099511627776)then wSZ++Lib.itoa mo else wSI
def capW(c:CP):List (List UInt8):=
 (bif c.pi then[wPI]else[])++((bif c.si then[sizeT c.mo]else[])++((bif c.st then[wST]else[])++((bif c.rq then[wRQ]else[])++((bif c.ds then[wDS]else[])++(bif c.eb then[wEB]else[])))))
theorem up_id{s:List UInt8}(h:s.all isUp=true):up s=s:=mapD_up greatF (fun c hc=>by unfold greatF;rw[decide_eq_false (by omega),Bool.false_and,cond_false]) s h
theorem said_one{NV NE:List UInt8→Int→Int}{w:List UInt8}{f:Bool→CP→CP}(hu:w.all isUp=true)(h:∀x,lineU NV NE w x=f true x)(h0:∀x,x=f false x)(b:Bool)(x:CP):linesU NV NE (bif b then[w]else[]) x=f b x:=by
 cases b with
 |true=>
  show lineU NV NE (up w) x=f true x;rw[up_id hu,h]
 |false=>exact h0 x
theorem said_pi{NV NE:List UInt8→Int→Int}(b:Bool)(x:CP):linesU NV NE (bif b then[wPI]else[]) x={x with pi:=x.pi||b}:=
 said_one (f:=fun b x=>{x with pi:=x.pi||b}) rfl (fun x=>by
  show setW wPI x=_;unfold setW;rw[show(wPI==wST)=false from rfl,show(wPI==wPI)=true from rfl,show(wPI==wRQ)=false from rfl,show(wPI==wDS)=false from rfl,show(wPI==wEB)=false from rfl,show(wPI==wSI)=false from rfl];simp only[Bool.or_false]) (fun x=>by simp only[Bool.or_false]) b x
theorem said_st{NV NE:List UInt8→Int→Int}(b:Bool)(x:CP):linesU NV NE (bif b then[wST]else[]) x={x with st:=x.st||b}:=
 said_one (f:=fun b x=>{x with st:=x.st||b}) rfl (fun x=>by
  show setW wST x=_;unfold setW;rw[show(wST==wST)=true from rfl,show(wST==wPI)=false from rfl,show(wST==wRQ)=false from rfl,show(wST==wDS)=false from rfl,show(wST==wEB)=false from rfl,show(wST==wSI)=false from rfl];simp only[Bool.or_false]) (fun x=>by simp only[Bool.or_false]) b x
theorem said_rq{NV NE:List UInt8→Int→Int}(b:Bool)(x:CP):linesU NV NE (bif b then[wRQ]else[]) x={x with rq:=x.rq||b}:=
 said_one (f:=fun b x=>{x with rq:=x.rq||b}) rfl (fun x=>by
  show setW wRQ x=_;unfold setW;rw[show(wRQ==wST)=false from rfl,show(wRQ==wPI)=false from rfl,show(wRQ==wRQ)=true from rfl,show(wRQ==wDS)=false from rfl,show(wRQ==wEB)=false from rfl,show(wRQ==wSI)=false from rfl];simp only[Bool.or_false]) (fun x=>by simp only[Bool.or_false]) b x
theorem said_ds{NV NE:List UInt8→Int→Int}(b:Bool)(x:CP):linesU NV NE (bif b then[wDS]else[]) x={x with ds:=x.ds||b}:=
 said_one (f:=fun b x=>{x with ds:=x.ds||b}) rfl (fun x=>by
  show setW wDS x=_;unfold setW;rw[show(wDS==wST)=false from rfl,show(wDS==wPI)=false from rfl,show(wDS==wRQ)=false from rfl,show(wDS==wDS)=true from rfl,show(wDS==wEB)=false from rfl,show(wDS==wSI)=false from rfl];simp only[Bool.or_false]) (fun x=>by simp only[Bool.or_false]) b x
theorem said_eb{NV NE:List UInt8→Int→Int}(b:Bool)(x:CP):linesU NV NE (bif b then[wEB]else[]) x={x with eb:=x.eb||b}:=
 said_one (f:=fun b x=>{x with eb:=x.eb||b}) rfl (fun x=>by
  show setW wEB x=_;unfold setW;rw[show(wEB==wST)=false from rfl,show(wEB==wPI)=false from rfl,show(wEB==wRQ)=false from rfl,show(wEB==wDS)=false from rfl,show(wEB==wEB)=true from rfl,show(wEB==wSI)=false from rfl];simp only[Bool.or_false]) (fun x=>by simp only[Bool.or_false]) b x
end Go.Vm
namespace Go.Proofs
open Go.Shelf
def Tryd.lays230_ren:Go.Shelf.Ren:=⟨fun|230=>37|197=>56|118=>57|165=>58|166=>59|168=>60|270=>61|167=>62|169=>63|260=>79|240=>80|241=>81|242=>82|276=>96|277=>97|278=>98|n=>n,fun|107=>62|9=>9|72=>90|0=>0|4=>4|3=>3|21=>21|105=>91|76=>71|5=>5|75=>70|70=>88|20=>20|37=>53|127=>105|119=>117|46=>39|139=>120|138=>119|164=>121|51=>73|80=>98|n=>n,fun|3=>2|4=>3|n=>n⟩
theorem Tryd.lays230:Go.Proofs.Lays.n230 Tryd.prog Tryd.lays230_ren:={
 mixed:=by kernel_rfl
 f118:=Tryd.func57.trans (congrArg some (by kernel_rfl))
 f165:=Tryd.func58.trans (congrArg some (by kernel_rfl))
 f166:=Tryd.func59.trans (congrArg some (by kernel_rfl))
 f167:=Tryd.func62.trans (congrArg some (by kernel_rfl))
 f168:=Tryd.func60.trans (congrArg some (by kernel_rfl))
 f169:=Tryd.func63.trans (congrArg some (by kernel_rfl))
 f197:=Tryd.func56.trans (congrArg some (by kernel_rfl))
 f230:=Tryd.func37.trans (congrArg some (by kernel_rfl))
 f240:=Tryd.func80.trans (congrArg some (by kernel_rfl))
 f241:=Tryd.func81.trans (congrArg some (by kernel_rfl))
 f242:=Tryd.func82.trans (congrArg some (by kernel_rfl))
 f260:=Tryd.func79.trans (congrArg some (by kernel_rfl))
 f270:=Tryd.func61.trans (congrArg some (by kernel_rfl))
 f276:=Tryd.func96.trans (congrArg some (by kernel_rfl))
 f277:=Tryd.func97.trans (congrArg some (by kernel_rfl))
 f278:=Tryd.func98.trans (congrArg some (by kernel_rfl))
 t0:=Tryd.underlying0
 a0:=Tryd.isAgg0
 z0:=Tryd.sizeOf0
 v0:=Tryd.zeroValue0
 t3:=Tryd.underlying3
 a3:=Tryd.isAgg3
 z3:=Tryd.sizeOf3
 v3:=Tryd.zeroValue3
 t4:=Tryd.underlying4
 a4:=Tryd.isAgg4
 z4:=Tryd.sizeOf4
 v4:=Tryd.zeroValue4
 t5:=Tryd.underlying5
 a5:=Tryd.isAgg5
 z5:=Tryd.sizeOf5
 v5:=Tryd.zeroValue5
 t9:=Tryd.underlying9
 a9:=Tryd.isAgg9
 z9:=Tryd.sizeOf9
 v9:=Tryd.zeroValue9
 t20:=Tryd.underlying20
 a20:=Tryd.isAgg20
 z20:=Tryd.sizeOf20
 v20:=Tryd.zeroValue20
 t21:=Tryd.underlying21
 a21:=Tryd.isAgg21
 z21:=Tryd.sizeOf21
 v21:=Tryd.zeroValue21
 t37:=Tryd.underlying53
 a37:=Tryd.isAgg53
 z37:=Tryd.sizeOf53
 v37:=Tryd.zeroValue53
 t46:=Tryd.underlying39
 a46:=Tryd.isAgg39
 z46:=Tryd.sizeOf39
 v46:=Tryd.zeroValue39
 t51:=Tryd.underlying73
 a51:=Tryd.isAgg73
 z51:=Tryd.sizeOf73
 v51:=Tryd.zeroValue73
 t70:=Tryd.underlying88
 a70:=Tryd.isAgg88
 z70:=Tryd.sizeOf88
 v70:=Tryd.zeroValue88
 t72:=Tryd.underlying90
 a72:=Tryd.isAgg90
 z72:=Tryd.sizeOf90
 v72:=Tryd.zeroValue90
 t75:=Tryd.underlying70
 a75:=Tryd.isAgg70
 z75:=Tryd.sizeOf70
 v75:=Tryd.zeroValue70
 t76:=Tryd.underlying71
 a76:=Tryd.isAgg71
 z76:=Tryd.sizeOf71
 v76:=Tryd.zeroValue71
 t105:=Tryd.underlying91
 a105:=Tryd.isAgg91
 z105:=Tryd.sizeOf91
 v105:=Tryd.zeroValue91
 t107:=Tryd.underlying62
 a107:=Tryd.isAgg62
 z107:=Tryd.sizeOf62
 v107:=Tryd.zeroValue62
 t119:=Tryd.underlying117
 a119:=Tryd.isAgg117
 z119:=Tryd.sizeOf117
 t127:=Tryd.underlying105
 a127:=Tryd.isAgg105
 z127:=Tryd.sizeOf105
 v127:=Tryd.zeroValue105
 t138:=Tryd.underlying119
 a138:=Tryd.isAgg119
 z138:=Tryd.sizeOf119
 v138:=Tryd.zeroValue119
 t139:=Tryd.underlying120
 a139:=Tryd.isAgg120
 z139:=Tryd.sizeOf120
 v139:=Tryd.zeroValue120
 t164:=Tryd.underlying121
 a164:=Tryd.isAgg121
 z164:=Tryd.sizeOf121
 v164:=Tryd.zeroValue121
 g3:=by kernel_rfl
 g4:=by kernel_rfl}
theorem Tryd.Builder_Extra_230:Builder.Extra Tryd.prog Tryd.lays230_ren:={
 sizeBuilder:=by kernel_rfl
 liesBuilder:=by kernel_rfl
 t5:=Tryd.underlying5
 a5:=Tryd.isAgg5
 z5:=Tryd.sizeOf5
 v5:=Tryd.zeroValue5
 infoByte:=by kernel_rfl
 cellsByte:=by kernel_rfl
 sizeByte:=by kernel_rfl
 neB5:=by decide}
open Go.RowKit Go.Lib in
theorem Tryd.strings_Map_runes(g:Nat)(lb:Array Value)(eg:∀args w,(callFunc g args).run Tryd.prog w=.ok (.enter g args) w)(f:Int→Int)(s:ByteArray)(w:World)(hs:s.size<35184372088832)(hf:MapAtRunes Tryd.prog g lb f w)(hnn:∀x:Nat,x≤1114111→0≤f x∧f x≤2147483647)(hT:Lib.Utf8Tabs 2 3 w):
 Calls Tryd.prog 37 #[.func (.func g) #[] lb,.string s] w fun e w'=>e=.returned (.string ⟨(Lib.mapD f s.data.toList).toArray⟩)∧Below w.heap.size w w':=Any.strings_Map_runes Tryd.lays230 Tryd.Builder_Extra_230 g lb eg f s w hs hf hnn hT
end Go.Proofs
namespace Go.Proofs.YtmcdajbfomngcaaDoor
open Go Go.Vm Go.RowKit
set_option linter.unusedSectionVars false
variable [Φ:Frz]
set_option linter.unusedVariables false
theorem great_enter:∀args w,(callFunc 38 args).run Tryd.prog w=.ok (.enter 38 args) w:=enters_of Tryd.func38 (by kernel_rfl) rfl
theorem great_gives(w:World):Go.Proofs.MapAtRunes Tryd.prog 38 #[] greatF w:=by
 intro W x hx _;show Calls Tryd.prog 38 #[.int .i32 (x:Int)] W _;by_cases h1:(97:Int)≤(x:Int)
 ·by_cases h2:(x:Int)≤122
  ·have e:greatF x=(x:Int)-97+65:=by
    unfold greatF;rw[decide_eq_true h1,decide_eq_true h2];simp only[Bool.and_self,cond_true];omega
   rw[e]
   go_enter Tryd.func38,Tryd.ntmps38
   go_wp2
   all_goals (go_ret;exact⟨rfl,0,rfl⟩)
  ·have e:greatF x=x:=by
    unfold greatF;rw[decide_eq_true h1,decide_eq_false h2];rfl
   rw[e]
   go_enter Tryd.func38,Tryd.ntmps38
   go_wp2
   all_goals (go_ret;exact⟨rfl,0,rfl⟩)
 ·have e:greatF x=x:=by
   unfold greatF;rw[decide_eq_false h1];rfl
  rw[e]
  go_enter Tryd.func38,Tryd.ntmps38
  go_wp2
  all_goals (go_ret;exact⟨rfl,0,rfl⟩)
theorem mapOk:MapRunesOk Tryd.prog 37 38 greatF 2 3:=fun s w h1 h2=>
 Tryd.strings_Map_runes 38 #[] great_enter greatF s w h1 (great_gives w) (fun x hx=>by unfold greatF;cases h:(decide (97≤(x:Int))&&decide ((x:Int)≤122))<;>simp at h ⊢<;>omega) h2
theorem map_known{s r:List UInt8}(h:(Nat.ble s.length 281474976710&&eqS (Lib.mapD greatF s) r)=true):EntFOk Tryd.prog ⟨37,[.func (.func 38) [] [],.str s],[],.str r,[]⟩:=
 map_ent mapOk ⟨rfl,rfl⟩ ⟨rfl,rfl⟩ rfl rfl h
theorem eqS_self:∀s:List UInt8,eqS s s=true
 |[]=>rfl
 |b::r=>by simp[eqS,eqS_self r]
def mapT:List V→Option (List (Bool×(V×St)))
 |[.func (.func 38) [] [],.str s]=>some [(okL s,(.str (up s),[]))]
 |_=>none
theorem map_ok(args:List V)(l:List (Bool×(V×St)))(o:V×St)(h:mapT args=some l)(ho:pickO l=some o):FnSat Tryd.prog 37 args [] (Is o):=by
 unfold mapT at h;split at h
 ·rename_i s;cases h;obtain⟨hk,rfl⟩:=pickO_one ho;have hl:=okL_le hk;exact map_known (s:=s) (r:=up s) (by rw[Bool.and_eq_true];exact⟨Nat.ble_eq_true_of_le (by omega),eqS_self (up s)⟩)
 ·cases h
end Go.Proofs.YtmcdajbfomngcaaDoor
namespace Go.Vm
end Go.Vm
namespace Go.Proofs.YtmcdajbfomngcaaDoor
open Go Go.Vm Go.RowKit
set_option linter.unusedVariables false
set_option maxRecDepth 100000
set_option linter.unusedSectionVars false
variable [Φ:Frz]
structure SP where
 s:List UInt8
 c:UInt8
 cs:List V
 N:Nat
 n:Nat
 i:Nat
def mapTG(OL:List UInt8→Bool)(UP:List UInt8→List UInt8):List V→Option (List (Bool×(V×St)))
 |[.func (.func 38) [] [],.str s]=>some [(OL s,(.str (UP s),[]))]
 |_=>none
def numTG(OL:List UInt8→Bool)(NV NE:List UInt8→Int→Int):List V→Option (List (Bool×(V×St)))
 |[.str s,.int .i64 most]=>some [(OL s&&isI64 most,(.tuple [.int .i64 (NV s most),.int .i64 (NE s most)],[]))]
 |_=>none
noncomputable def CO0(OL:List UInt8→Bool)(UP:List UInt8→List UInt8)(NV NE:List UInt8→Int→Int):Tab:=⟨addT (addT noT 37 (mapTG OL UP)) 27 (numTG OL NV NE),noL,noLks 9⟩
theorem CO0_ok:TabOk3 Tryd.prog (CO0 okL up numV numE):=⟨addT_ok (addT_ok noT_ok map_ok) cnum_ok,noL_ok,noLks_ok 9⟩
theorem co_round(OL:List UInt8→Bool)(UP:List UInt8→List UInt8)(NV NE:List UInt8→Int→Int)(a1 a2 a3 a4 a5 a6:Bool)(mo:Int)(y:Value)(m:Nat)(ds:List V)(i:Int)(R:Exit→List (Option V)→St→Prop):roundW Tryd.prog (CO0 OL UP NV NE) 9 20 (rounds 9) 22 250 [2,3,4,25,26,27] [.ptr 0 0,.ptr 1 0,.map 2,.lst y m ds,.int .i64 (m:Int),.int .i64 i] [.row [.bool false,.bool false,.bool false,.bool false,.bool false,.bool false,.int .i64 0] 34 7,.row [.bool a1,.bool a2,.bool a3,.bool a4,.bool a5,.bool a6,.int .i64 mo] 34 7,.mp [.str [83,84,65,82,84,84,76,83],.func (.func 55) [] [.ptr 3 0],.str [80,73,80,69,76,73,78,73,78,71],.func (.func 55) [] [.ptr 4 0],.str [82,69,81,85,73,82,69,84,76,83],.func (.func 55) [] [.ptr 5 0],.str [68,83,78],.func (.func 55) [] [.ptr 6 0],.str [56,66,73,84,77,73,77,69],.func (.func 55) [] [.ptr 7 0],.str [83,73,90,69],.func (.func 55) [] [.ptr 8 0]],.row [.ptr 1 0] 86 1,.row [.ptr 1 1] 86 1,.row [.ptr 1 2] 86 1,.row [.ptr 1 3] 86 1,.row [.ptr 1 4] 86 1,.row [.ptr 1 5] 86 1] R=
  (
 bif decide (i<(↑m:Int))then bif decide (0≤i)&&decide (i<(↑m:Int))then bif (i.toNat*1).blt ds.length then bif isStrV (ds.getD (i.toNat*1) (V.bool false))
 then bif OL (strOfV (ds.getD (i.toNat*1) (V.bool false)))then bif eqS (UP (strOfV (ds.getD (i.toNat*1) (V.bool false)))) [83,84,65,82,84,84,76,83]then bif
 decide ((↑(UP (strOfV (ds.getD (i.toNat*1) (V.bool false)))).length:Int)≥5)then bif true&&Nat.ble 5 (UP (strOfV (ds.getD (i.toNat*1) (V.bool false)))).length
 then bif !List.take 5 (List.drop 0 (UP (strOfV (ds.getD (i.toNat*1) (V.bool false)))))==[83,73,90,69,32]then R Exit.normal [some (V.ptr 0 0),some (V.ptr 1 0),
 some (V.map 2),some (V.lst y m ds),some (V.int IntKind.i64 (↑m:Int)),some (V.int IntKind.i64 (IntKind.i64.wrap (i+1)))] [Blk.row [V.bool false,V.bool false,
 V.bool false,V.bool false,V.bool false,V.bool false,V.int IntKind.i64 0] 34 7,Blk.row [V.bool true,V.bool a2,V.bool a3,V.bool a4,V.bool a5,V.bool a6,V.int
 IntKind.i64 mo] 34 7,Blk.mp [V.str [83,84,65,82,84,84,76,83],V.func (Fn.func 55) [] [V.ptr 3 0],V.str [80,73,80,69,76,73,78,73,78,71],V.func (Fn.func
 55) [] [V.ptr 4 0],V.str [82,69,81,85,73,82,69,84,76,83],V.func (Fn.func 55) [] [V.ptr 5 0],V.str [68,83,78],V.func (Fn.func 55) [] [V.ptr 6 0],V.str [56,
 66,73,84,77,73,77,69],V.func (Fn.func 55) [] [V.ptr 7 0],V.str [83,73,90,69],V.func (Fn.func 55) [] [V.ptr 8 0]],Blk.row [V.ptr 1 0] 86 1,Blk.row [V.ptr 1
 1] 86 1,Blk.row [V.ptr 1 2] 86 1,Blk.row [V.ptr 1 3] 86 1,Blk.row [V.ptr 1 4] 86 1,Blk.row [V.ptr 1 5] 86 1]else bif Nat.ble 5 (UP (strOfV (ds.getD (i.toNat*1)
 (V.bool false)))).length&&(UP (strOfV (ds.getD (i.toNat*1) (V.bool false)))).length.ble (UP (strOfV (ds.getD (i.toNat*1) (V.bool false)))).length then bif OL
 (List.take ((UP (strOfV (ds.getD (i.toNat*1) (V.bool false)))).length-5) (List.drop 5 (UP (strOfV (ds.getD (i.toNat*1) (V.bool false))))))&&true then bif NE
 (List.take ((UP (strOfV (ds.getD (i.toNat*1) (V.bool false)))).length-5) (List.drop 5 (UP (strOfV (ds.getD (i.toNat*1) (V.bool false)))))) 1099511627776==4 then R
 Exit.normal [some (V.ptr 0 0),some (V.ptr 1 0),some (V.map 2),some (V.lst y m ds),some (V.int IntKind.i64 (↑m:Int)),some (V.int IntKind.i64 (IntKind.i64.wrap (i+
 1)))] [Blk.row [V.bool false,V.bool false,V.bool false,V.bool false,V.bool false,V.bool false,V.int IntKind.i64 0] 34 7,Blk.row [V.bool true,V.bool a2,V.bool a3,
 V.bool a4,V.bool a5,V.bool a6,V.int IntKind.i64 mo] 34 7,Blk.mp [V.str [83,84,65,82,84,84,76,83],V.func (Fn.func 55) [] [V.ptr 3 0],V.str [80,73,80,69,
 76,73,78,73,78,71],V.func (Fn.func 55) [] [V.ptr 4 0],V.str [82,69,81,85,73,82,69,84,76,83],V.func (Fn.func 55) [] [V.ptr 5 0],V.str [68,83,78],
 V.func (Fn.func 55) [] [V.ptr 6 0],V.str [56,66,73,84,77,73,77,69],V.func (Fn.func 55) [] [V.ptr 7 0],V.str [83,73,90,69],V.func (Fn.func 55) [] [V.ptr 8
 0]],Blk.row [V.ptr 1 0] 86 1,Blk.row [V.ptr 1 1] 86 1,Blk.row [V.ptr 1 2] 86 1,Blk.row [V.ptr 1 3] 86 1,Blk.row [V.ptr 1 4] 86 1,Blk.row [V.ptr 1 5] 86 1]else bif
 mo==0 then R Exit.normal [some (V.ptr 0 0),some (V.ptr 1 0),some (V.map 2),some (V.lst y m ds),some (V.int IntKind.i64 (↑m:Int)),some (V.int IntKind.i64
 (IntKind.i64.wrap (i+1)))] [Blk.row [V.bool false,V.bool false,V.bool false,V.bool false,V.bool false,V.bool false,V.int IntKind.i64 0] 34 7,Blk.row [V.bool
 true,V.bool a2,V.bool a3,V.bool a4,V.bool a5,V.bool true,V.int IntKind.i64 (NV (List.take ((UP (strOfV (ds.getD (i.toNat*1) (V.bool false)))).length-5)
 (List.drop 5 (UP (strOfV (ds.getD (i.toNat*1) (V.bool false)))))) 1099511627776)] 34 7,Blk.mp [V.str [83,84,65,82,84,84,76,83],V.func (Fn.func 55) [] [V.ptr 3
 0],V.str [80,73,80,69,76,73,78,73,78,71],V.func (Fn.func 55) [] [V.ptr 4 0],V.str [82,69,81,85,73,82,69,84,76,83],V.func (Fn.func 55) [] [V.ptr 5
 0],V.str [68,83,78],V.func (Fn.func 55) [] [V.ptr 6 0],V.str [56,66,73,84,77,73,77,69],V.func (Fn.func 55) [] [V.ptr 7 0],V.str [83,73,90,69],V.func
 (Fn.func 55) [] [V.ptr 8 0]],Blk.row [V.ptr 1 0] 86 1,Blk.row [V.ptr 1 1] 86 1,Blk.row [V.ptr 1 2] 86 1,Blk.row [V.ptr 1 3] 86 1,Blk.row [V.ptr 1 4] 86 1,Blk.row
 [V.ptr 1 5] 86 1]else R Exit.normal [some (V.ptr 0 0),some (V.ptr 1 0),some (V.map 2),some (V.lst y m ds),some (V.int IntKind.i64 (↑m:Int)),some (V.int
 IntKind.i64 (IntKind.i64.wrap (i+1)))] [Blk.row [V.bool false,V.bool false,V.bool false,V.bool false,V.bool false,V.bool false,V.int IntKind.i64 0] 34 7,Blk.row
 [V.bool true,V.bool a2,V.bool a3,V.bool a4,V.bool a5,V.bool true,V.int IntKind.i64 mo] 34 7,Blk.mp [V.str [83,84,65,82,84,84,76,83],V.func (Fn.func 55) []
 [V.ptr 3 0],V.str [80,73,80,69,76,73,78,73,78,71],V.func (Fn.func 55) [] [V.ptr 4 0],V.str [82,69,81,85,73,82,69,84,76,83],V.func (Fn.func 55) []
 [V.ptr 5 0],V.str [68,83,78],V.func (Fn.func 55) [] [V.ptr 6 0],V.str [56,66,73,84,77,73,77,69],V.func (Fn.func 55) [] [V.ptr 7 0],V.str [83,73,90,69],
 V.func (Fn.func 55) [] [V.ptr 8 0]],Blk.row [V.ptr 1 0] 86 1,Blk.row [V.ptr 1 1] 86 1,Blk.row [V.ptr 1 2] 86 1,Blk.row [V.ptr 1 3] 86 1,Blk.row [V.ptr 1 4] 86 1,
 Blk.row [V.ptr 1 5] 86 1]else False else False else False else R Exit.normal [some (V.ptr 0 0),some (V.ptr 1 0),some (V.map 2),some (V.lst y m ds),some (V.int
 IntKind.i64 (↑m:Int)),some (V.int IntKind.i64 (IntKind.i64.wrap (i+1)))] [Blk.row [V.bool false,V.bool false,V.bool false,V.bool false,V.bool false,V.bool
 false,V.int IntKind.i64 0] 34 7,Blk.row [V.bool true,V.bool a2,V.bool a3,V.bool a4,V.bool a5,V.bool a6,V.int IntKind.i64 mo] 34 7,Blk.mp [V.str [83,84,65,82,
 84,84,76,83],V.func (Fn.func 55) [] [V.ptr 3 0],V.str [80,73,80,69,76,73,78,73,78,71],V.func (Fn.func 55) [] [V.ptr 4 0],V.str [82,69,81,85,73,82,
 69,84,76,83],V.func (Fn.func 55) [] [V.ptr 5 0],V.str [68,83,78],V.func (Fn.func 55) [] [V.ptr 6 0],V.str [56,66,73,84,77,73,77,69],V.func (Fn.func 55)
 [] [V.ptr 7 0],V.str [83,73,90,69],V.func (Fn.func 55) [] [V.ptr 8 0]],Blk.row [V.ptr 1 0] 86 1,Blk.row [V.ptr 1 1] 86 1,Blk.row [V.ptr 1 2] 86 1,Blk.row [V.ptr
 1 3] 86 1,Blk.row [V.ptr 1 4] 86 1,Blk.row [V.ptr 1 5] 86 1]else bif eqS (UP (strOfV (ds.getD (i.toNat*1) (V.bool false)))) [80,73,80,69,76,73,78,73,78,71]
 then bif decide ((↑(UP (strOfV (ds.getD (i.toNat*1) (V.bool false)))).length:Int)≥5)then bif true&&Nat.ble 5 (UP (strOfV (ds.getD (i.toNat*1) (V.bool
 false)))).length then bif !List.take 5 (List.drop 0 (UP (strOfV (ds.getD (i.toNat*1) (V.bool false)))))==[83,73,90,69,32]then R Exit.normal [some (V.ptr 0 0),
 some (V.ptr 1 0),some (V.map 2),some (V.lst y m ds),some (V.int IntKind.i64 (↑m:Int)),some (V.int IntKind.i64 (IntKind.i64.wrap (i+1)))] [Blk.row [V.bool false,
 V.bool false,V.bool false,V.bool false,V.bool false,V.bool false,V.int IntKind.i64 0] 34 7,Blk.row [V.bool a1,V.bool true,V.bool a3,V.bool a4,V.bool a5,V.bool
 a6,V.int IntKind.i64 mo] 34 7,Blk.mp [V.str [83,84,65,82,84,84,76,83],V.func (Fn.func 55) [] [V.ptr 3 0],V.str [80,73,80,69,76,73,78,73,78,71],V.func
 (Fn.func 55) [] [V.ptr 4 0],V.str [82,69,81,85,73,82,69,84,76,83],V.func (Fn.func 55) [] [V.ptr 5 0],V.str [68,83,78],V.func (Fn.func 55) [] [V.ptr 6 0],
 V.str [56,66,73,84,77,73,77,69],V.func (Fn.func 55) [] [V.ptr 7 0],V.str [83,73,90,69],V.func (Fn.func 55) [] [V.ptr 8 0]],Blk.row [V.ptr 1 0] 86 1,Blk.row
 [V.ptr 1 1] 86 1,Blk.row [V.ptr 1 2] 86 1,Blk.row [V.ptr 1 3] 86 1,Blk.row [V.ptr 1 4] 86 1,Blk.row [V.ptr 1 5] 86 1]else bif Nat.ble 5 (UP (strOfV (ds.getD (i.toNat
 *1) (V.bool false)))).length&&(UP (strOfV (ds.getD (i.toNat*1) (V.bool false)))).length.ble (UP (strOfV (ds.getD (i.toNat*1) (V.bool false)))).length then bif OL
 (List.take ((UP (strOfV (ds.getD (i.toNat*1) (V.bool false)))).length-5) (List.drop 5 (UP (strOfV (ds.getD (i.toNat*1) (V.bool false))))))&&true then bif NE
 (List.take ((UP (strOfV (ds.getD (i.toNat*1) (V.bool false)))).length-5) (List.drop 5 (UP (strOfV (ds.getD (i.toNat*1) (V.bool false)))))) 1099511627776==4 then R
 Exit.normal [some (V.ptr 0 0),some (V.ptr 1 0),some (V.map 2),some (V.lst y m ds),some (V.int IntKind.i64 (↑m:Int)),some (V.int IntKind.i64 (IntKind.i64.wrap (i+
 1)))] [Blk.row [V.bool false,V.bool false,V.bool false,V.bool false,V.bool false,V.bool false,V.int IntKind.i64 0] 34 7,Blk.row [V.bool a1,V.bool true,V.bool a3,
 V.bool a4,V.bool a5,V.bool a6,V.int IntKind.i64 mo] 34 7,Blk.mp [V.str [83,84,65,82,84,84,76,83],V.func (Fn.func 55) [] [V.ptr 3 0],V.str [80,73,80,69,
 76,73,78,73,78,71],V.func (Fn.func 55) [] [V.ptr 4 0],V.str [82,69,81,85,73,82,69,84,76,83],V.func (Fn.func 55) [] [V.ptr 5 0],V.str [68,83,78],
 V.func (Fn.func 55) [] [V.ptr 6 0],V.str [56,66,73,84,77,73,77,69],V.func (Fn.func 55) [] [V.ptr 7 0],V.str [83,73,90,69],V.func (Fn.func 55) [] [V.ptr 8
 0]],Blk.row [V.ptr 1 0] 86 1,Blk.row [V.ptr 1 1] 86 1,Blk.row [V.ptr 1 2] 86 1,Blk.row [V.ptr 1 3] 86 1,Blk.row [V.ptr 1 4] 86 1,Blk.row [V.ptr 1 5] 86 1]else bif
 mo==0 then R Exit.normal [some (V.ptr 0 0),some (V.ptr 1 0),some (V.map 2),some (V.lst y m ds),some (V.int IntKind.i64 (↑m:Int)),some (V.int IntKind.i64
 (IntKind.i64.wrap (i+1)))] [Blk.row [V.bool false,V.bool false,V.bool false,V.bool false,V.bool false,V.bool false,V.int IntKind.i64 0] 34 7,Blk.row [V.bool a1,
 V.bool true,V.bool a3,V.bool a4,V.bool a5,V.bool true,V.int IntKind.i64 (NV (List.take ((UP (strOfV (ds.getD (i.toNat*1) (V.bool false)))).length-5) (List.drop 5
 (UP (strOfV (ds.getD (i.toNat*1) (V.bool false)))))) 1099511627776)] 34 7,Blk.mp [V.str [83,84,65,82,84,84,76,83],V.func (Fn.func 55) [] [V.ptr 3 0],V.str
 [80,73,80,69,76,73,78,73,78,71],V.func (Fn.func 55) [] [V.ptr 4 0],V.str [82,69,81,85,73,82,69,84,76,83],V.func (Fn.func 55) [] [V.ptr 5 0],V.str
 [68,83,78],V.func (Fn.func 55) [] [V.ptr 6 0],V.str [56,66,73,84,77,73,77,69],V.func (Fn.func 55) [] [V.ptr 7 0],V.str [83,73,90,69],V.func (Fn.func 55)
 [] [V.ptr 8 0]],Blk.row [V.ptr 1 0] 86 1,Blk.row [V.ptr 1 1] 86 1,Blk.row [V.ptr 1 2] 86 1,Blk.row [V.ptr 1 3] 86 1,Blk.row [V.ptr 1 4] 86 1,Blk.row [V.ptr 1 5] 86
 1]else R Exit.normal [some (V.ptr 0 0),some (V.ptr 1 0),some (V.map 2),some (V.lst y m ds),some (V.int IntKind.i64 (↑m:Int)),some (V.int IntKind.i64
 (IntKind.i64.wrap (i+1)))] [Blk.row [V.bool false,V.bool false,V.bool false,V.bool false,V.bool false,V.bool false,V.int IntKind.i64 0] 34 7,Blk.row [V.bool a1,
 V.bool true,V.bool a3,V.bool a4,V.bool a5,V.bool true,V.int IntKind.i64 mo] 34 7,Blk.mp [V.str [83,84,65,82,84,84,76,83],V.func (Fn.func 55) [] [V.ptr 3 0],
 V.str [80,73,80,69,76,73,78,73,78,71],V.func (Fn.func 55) [] [V.ptr 4 0],V.str [82,69,81,85,73,82,69,84,76,83],V.func (Fn.func 55) [] [V.ptr 5 0],
 V.str [68,83,78],V.func (Fn.func 55) [] [V.ptr 6 0],V.str [56,66,73,84,77,73,77,69],V.func (Fn.func 55) [] [V.ptr 7 0],V.str [83,73,90,69],V.func
 (Fn.func 55) [] [V.ptr 8 0]],Blk.row [V.ptr 1 0] 86 1,Blk.row [V.ptr 1 1] 86 1,Blk.row [V.ptr 1 2] 86 1,Blk.row [V.ptr 1 3] 86 1,Blk.row [V.ptr 1 4] 86 1,Blk.row
 [V.ptr 1 5] 86 1]else False else False else False else R Exit.normal [some (V.ptr 0 0),some (V.ptr 1 0),some (V.map 2),some (V.lst y m ds),some (V.int IntKind.i64
 (↑m:Int)),some (V.int IntKind.i64 (IntKind.i64.wrap (i+1)))] [Blk.row [V.bool false,V.bool false,V.bool false,V.bool false,V.bool false,V.bool false,V.int
 IntKind.i64 0] 34 7,Blk.row [V.bool a1,V.bool true,V.bool a3,V.bool a4,V.bool a5,V.bool a6,V.int IntKind.i64 mo] 34 7,Blk.mp [V.str [83,84,65,82,84,84,76,
 83],V.func (Fn.func 55) [] [V.ptr 3 0],V.str [80,73,80,69,76,73,78,73,78,71],V.func (Fn.func 55) [] [V.ptr 4 0],V.str [82,69,81,85,73,82,69,84,76,
 83],V.func (Fn.func 55) [] [V.ptr 5 0],V.str [68,83,78],V.func (Fn.func 55) [] [V.ptr 6 0],V.str [56,66,73,84,77,73,77,69],V.func (Fn.func 55) [] [V.ptr 7
 0],V.str [83,73,90,69],V.func (Fn.func 55) [] [V.ptr 8 0]],Blk.row [V.ptr 1 0] 86 1,Blk.row [V.ptr 1 1] 86 1,Blk.row [V.ptr 1 2] 86 1,Blk.row [V.ptr 1 3] 86 1,
 Blk.row [V.ptr 1 4] 86 1,Blk.row [V.ptr 1 5] 86 1]else bif eqS (UP (strOfV (ds.getD (i.toNat*1) (V.bool false)))) [82,69,81,85,73,82,69,84,76,83]then bif
 decide ((↑(UP (strOfV (ds.getD (i.toNat*1) (V.bool false)))).length:Int)≥5)then bif true&&Nat.ble 5 (UP (strOfV (ds.getD (i.toNat*1) (V.bool false)))).length
 then bif !List.take 5 (List.drop 0 (UP (strOfV (ds.getD (i.toNat*1) (V.bool false)))))==[83,73,90,69,32]then R Exit.normal [some (V.ptr 0 0),some (V.ptr 1 0),
 some (V.map 2),some (V.lst y m ds),some (V.int IntKind.i64 (↑m:Int)),some (V.int IntKind.i64 (IntKind.i64.wrap (i+1)))] [Blk.row [V.bool false,V.bool false,
 V.bool false,V.bool false,V.bool false,V.bool false,V.int IntKind.i64 0] 34 7,Blk.row [V.bool a1,V.bool a2,V.bool true,V.bool a4,V.bool a5,V.bool a6,V.int
 IntKind.i64 mo] 34 7,Blk.mp [V.str [83,84,65,82,84,84,76,83],V.func (Fn.func 55) [] [V.ptr 3 0],V.str [80,73,80,69,76,73,78,73,78,71],V.func (Fn.func
 55) [] [V.ptr 4 0],V.str [82,69,81,85,73,82,69,84,76,83],V.func (Fn.func 55) [] [V.ptr 5 0],V.str [68,83,78],V.func (Fn.func 55) [] [V.ptr 6 0],V.str [56,
 66,73,84,77,73,77,69],V.func (Fn.func 55) [] [V.ptr 7 0],V.str [83,73,90,69],V.func (Fn.func 55) [] [V.ptr 8 0]],Blk.row [V.ptr 1 0] 86 1,Blk.row [V.ptr 1
 1] 86 1,Blk.row [V.ptr 1 2] 86 1,Blk.row [V.ptr 1 3] 86 1,Blk.row [V.ptr 1 4] 86 1,Blk.row [V.ptr 1 5] 86 1]else bif Nat.ble 5 (UP (strOfV (ds.getD (i.toNat*1)
 (V.bool false)))).length&&(UP (strOfV (ds.getD (i.toNat*1) (V.bool false)))).length.ble (UP (strOfV (ds.getD (i.toNat*1) (V.bool false)))).length then bif OL
 (List.take ((UP (strOfV (ds.getD (i.toNat*1) (V.bool false)))).length-5) (List.drop 5 (UP (strOfV (ds.getD (i.toNat*1) (V.bool false))))))&&true then bif NE
 (List.take ((UP (strOfV (ds.getD (i.toNat*1) (V.bool false)))).length-5) (List.drop 5 (UP (strOfV (ds.getD (i.toNat*1) (V.bool false)))))) 1099511627776==4 then R
 Exit.normal [some (V.ptr 0 0),some (V.ptr 1 0),some (V.map 2),some (V.lst y m ds),some (V.int IntKind.i64 (↑m:Int)),some (V.int IntKind.i64 (IntKind.i64.wrap (i+
 1)))] [Blk.row [V.bool false,V.bool false,V.bool false,V.bool false,V.bool false,V.bool false,V.int IntKind.i64 0] 34 7,Blk.row [V.bool a1,V.bool a2,V.bool true,
 V.bool a4,V.bool a5,V.bool a6,V.int IntKind.i64 mo] 34 7,Blk.mp [V.str [83,84,65,82,84,84,76,83],V.func (Fn.func 55) [] [V.ptr 3 0],V.str [80,73,80,69,
 76,73,78,73,78,71],V.func (Fn.func 55) [] [V.ptr 4 0],V.str [82,69,81,85,73,82,69,84,76,83],V.func (Fn.func 55) [] [V.ptr 5 0],V.str [68,83,78],
 V.func (Fn.func 55) [] [V.ptr 6 0],V.str [56,66,73,84,77,73,77,69],V.func (Fn.func 55) [] [V.ptr 7 0],V.str [83,73,90,69],V.func (Fn.func 55) [] [V.ptr 8
 0]],Blk.row [V.ptr 1 0] 86 1,Blk.row [V.ptr 1 1] 86 1,Blk.row [V.ptr 1 2] 86 1,Blk.row [V.ptr 1 3] 86 1,Blk.row [V.ptr 1 4] 86 1,Blk.row [V.ptr 1 5] 86 1]else bif
 mo==0 then R Exit.normal [some (V.ptr 0 0),some (V.ptr 1 0),some (V.map 2),some (V.lst y m ds),some (V.int IntKind.i64 (↑m:Int)),some (V.int IntKind.i64
 (IntKind.i64.wrap (i+1)))] [Blk.row [V.bool false,V.bool false,V.bool false,V.bool false,V.bool false,V.bool false,V.int IntKind.i64 0] 34 7,Blk.row [V.bool a1,
 V.bool a2,V.bool true,V.bool a4,V.bool a5,V.bool true,V.int IntKind.i64 (NV (List.take ((UP (strOfV (ds.getD (i.toNat*1) (V.bool false)))).length-5) (List.drop 5
 (UP (strOfV (ds.getD (i.toNat*1) (V.bool false)))))) 1099511627776)] 34 7,Blk.mp [V.str [83,84,65,82,84,84,76,83],V.func (Fn.func 55) [] [V.ptr 3 0],V.str
 [80,73,80,69,76,73,78,73,78,71],V.func (Fn.func 55) [] [V.ptr 4 0],V.str [82,69,81,85,73,82,69,84,76,83],V.func (Fn.func 55) [] [V.ptr 5 0],V.str
 [68,83,78],V.func (Fn.func 55) [] [V.ptr 6 0],V.str [56,66,73,84,77,73,77,69],V.func (Fn.func 55) [] [V.ptr 7 0],V.str [83,73,90,69],V.func (Fn.func 55)
 [] [V.ptr 8 0]],Blk.row [V.ptr 1 0] 86 1,Blk.row [V.ptr 1 1] 86 1,Blk.row [V.ptr 1 2] 86 1,Blk.row [V.ptr 1 3] 86 1,Blk.row [V.ptr 1 4] 86 1,Blk.row [V.ptr 1 5] 86
 1]else R Exit.normal [some (V.ptr 0 0),some (V.ptr 1 0),some (V.map 2),some (V.lst y m ds),some (V.int IntKind.i64 (↑m:Int)),some (V.int IntKind.i64
 (IntKind.i64.wrap (i+1)))] [Blk.row [V.bool false,V.bool false,V.bool false,V.bool false,V.bool false,V.bool false,V.int IntKind.i64 0] 34 7,Blk.row [V.bool a1,
 V.bool a2,V.bool true,V.bool a4,V.bool a5,V.bool true,V.int IntKind.i64 mo] 34 7,Blk.mp [V.str [83,84,65,82,84,84,76,83],V.func (Fn.func 55) [] [V.ptr 3 0],
 V.str [80,73,80,69,76,73,78,73,78,71],V.func (Fn.func 55) [] [V.ptr 4 0],V.str [82,69,81,85,73,82,69,84,76,83],V.func (Fn.func 55) [] [V.ptr 5 0],
 V.str [68,83,78],V.func (Fn.func 55) [] [V.ptr 6 0],V.str [56,66,73,84,77,73,77,69],V.func (Fn.func 55) [] [V.ptr 7 0],V.str [83,73,90,69],V.func
 (Fn.func 55) [] [V.ptr 8 0]],Blk.row [V.ptr 1 0] 86 1,Blk.row [V.ptr 1 1] 86 1,Blk.row [V.ptr 1 2] 86 1,Blk.row [V.ptr 1 3] 86 1,Blk.row [V.ptr 1 4] 86 1,Blk.row
 [V.ptr 1 5] 86 1]else False else False else False else R Exit.normal [some (V.ptr 0 0),some (V.ptr 1 0),some (V.map 2),some (V.lst y m ds),some (V.int IntKind.i64
 (↑m:Int)),some (V.int IntKind.i64 (IntKind.i64.wrap (i+1)))] [Blk.row [V.bool false,V.bool false,V.bool false,V.bool false,V.bool false,V.bool false,V.int
 IntKind.i64 0] 34 7,Blk.row [V.bool a1,V.bool a2,V.bool true,V.bool a4,V.bool a5,V.bool a6,V.int IntKind.i64 mo] 34 7,Blk.mp [V.str [83,84,65,82,84,84,76,
 83],V.func (Fn.func 55) [] [V.ptr 3 0],V.str [80,73,80,69,76,73,78,73,78,71],V.func (Fn.func 55) [] [V.ptr 4 0],V.str [82,69,81,85,73,82,69,84,76,
 83],V.func (Fn.func 55) [] [V.ptr 5 0],V.str [68,83,78],V.func (Fn.func 55) [] [V.ptr 6 0],V.str [56,66,73,84,77,73,77,69],V.func (Fn.func 55) [] [V.ptr 7
 0],V.str [83,73,90,69],V.func (Fn.func 55) [] [V.ptr 8 0]],Blk.row [V.ptr 1 0] 86 1,Blk.row [V.ptr 1 1] 86 1,Blk.row [V.ptr 1 2] 86 1,Blk.row [V.ptr 1 3] 86 1,
 Blk.row [V.ptr 1 4] 86 1,Blk.row [V.ptr 1 5] 86 1]else bif eqS (UP (strOfV (ds.getD (i.toNat*1) (V.bool false)))) [68,83,78]then bif decide ((↑(UP (strOfV (ds.getD
 (i.toNat*1) (V.bool false)))).length:Int)≥5)then bif true&&Nat.ble 5 (UP (strOfV (ds.getD (i.toNat*1) (V.bool false)))).length then bif !List.take 5 (List.drop
 0 (UP (strOfV (ds.getD (i.toNat*1) (V.bool false)))))==[83,73,90,69,32]then R Exit.normal [some (V.ptr 0 0),some (V.ptr 1 0),some (V.map 2),some (V.lst y m
 ds),some (V.int IntKind.i64 (↑m:Int)),some (V.int IntKind.i64 (IntKind.i64.wrap (i+1)))] [Blk.row [V.bool false,V.bool false,V.bool false,V.bool false,V.bool
 false,V.bool false,V.int IntKind.i64 0] 34 7,Blk.row [V.bool a1,V.bool a2,V.bool a3,V.bool true,V.bool a5,V.bool a6,V.int IntKind.i64 mo] 34 7,Blk.mp [V.str
 [83,84,65,82,84,84,76,83],V.func (Fn.func 55) [] [V.ptr 3 0],V.str [80,73,80,69,76,73,78,73,78,71],V.func (Fn.func 55) [] [V.ptr 4 0],V.str [82,69,
 81,85,73,82,69,84,76,83],V.func (Fn.func 55) [] [V.ptr 5 0],V.str [68,83,78],V.func (Fn.func 55) [] [V.ptr 6 0],V.str [56,66,73,84,77,73,77,69],
 V.func (Fn.func 55) [] [V.ptr 7 0],V.str [83,73,90,69],V.func (Fn.func 55) [] [V.ptr 8 0]],Blk.row [V.ptr 1 0] 86 1,Blk.row [V.ptr 1 1] 86 1,Blk.row [V.ptr 1 2]
 86 1,Blk.row [V.ptr 1 3] 86 1,Blk.row [V.ptr 1 4] 86 1,Blk.row [V.ptr 1 5] 86 1]else bif Nat.ble 5 (UP (strOfV (ds.getD (i.toNat*1) (V.bool false)))).length&&(UP
 (strOfV (ds.getD (i.toNat*1) (V.bool false)))).length.ble (UP (strOfV (ds.getD (i.toNat*1) (V.bool false)))).length then bif OL (List.take ((UP (strOfV (ds.getD
 (i.toNat*1) (V.bool false)))).length-5) (List.drop 5 (UP (strOfV (ds.getD (i.toNat*1) (V.bool false))))))&&true then bif NE (List.take ((UP (strOfV (ds.getD
 (i.toNat*1) (V.bool false)))).length-5) (List.drop 5 (UP (strOfV (ds.getD (i.toNat*1) (V.bool false)))))) 1099511627776==4 then R Exit.normal [some (V.ptr 0 0),
 some (V.ptr 1 0),some (V.map 2),some (V.lst y m ds),some (V.int IntKind.i64 (↑m:Int)),some (V.int IntKind.i64 (IntKind.i64.wrap (i+1)))] [Blk.row [V.bool false,
 V.bool false,V.bool false,V.bool false,V.bool false,V.bool false,V.int IntKind.i64 0] 34 7,Blk.row [V.bool a1,V.bool a2,V.bool a3,V.bool true,V.bool a5,V.bool
 a6,V.int IntKind.i64 mo] 34 7,Blk.mp [V.str [83,84,65,82,84,84,76,83],V.func (Fn.func 55) [] [V.ptr 3 0],V.str [80,73,80,69,76,73,78,73,78,71],V.func
 (Fn.func 55) [] [V.ptr 4 0],V.str [82,69,81,85,73,82,69,84,76,83],V.func (Fn.func 55) [] [V.ptr 5 0],V.str [68,83,78],V.func (Fn.func 55) [] [V.ptr 6 0],
 V.str [56,66,73,84,77,73,77,69],V.func (Fn.func 55) [] [V.ptr 7 0],V.str [83,73,90,69],V.func (Fn.func 55) [] [V.ptr 8 0]],Blk.row [V.ptr 1 0] 86 1,Blk.row
 [V.ptr 1 1] 86 1,Blk.row [V.ptr 1 2] 86 1,Blk.row [V.ptr 1 3] 86 1,Blk.row [V.ptr 1 4] 86 1,Blk.row [V.ptr 1 5] 86 1]else bif mo==0 then R Exit.normal [some (V.ptr
 0 0),some (V.ptr 1 0),some (V.map 2),some (V.lst y m ds),some (V.int IntKind.i64 (↑m:Int)),some (V.int IntKind.i64 (IntKind.i64.wrap (i+1)))] [Blk.row [V.bool
 false,V.bool false,V.bool false,V.bool false,V.bool false,V.bool false,V.int IntKind.i64 0] 34 7,Blk.row [V.bool a1,V.bool a2,V.bool a3,V.bool true,V.bool a5,
 V.bool true,V.int IntKind.i64 (NV (List.take ((UP (strOfV (ds.getD (i.toNat*1) (V.bool false)))).length-5) (List.drop 5 (UP (strOfV (ds.getD (i.toNat*1) (V.bool
 false)))))) 1099511627776)] 34 7,Blk.mp [V.str [83,84,65,82,84,84,76,83],V.func (Fn.func 55) [] [V.ptr 3 0],V.str [80,73,80,69,76,73,78,73,78,71],
 V.func (Fn.func 55) [] [V.ptr 4 0],V.str [82,69,81,85,73,82,69,84,76,83],V.func (Fn.func 55) [] [V.ptr 5 0],V.str [68,83,78],V.func (Fn.func 55) [] [V.ptr
 6 0],V.str [56,66,73,84,77,73,77,69],V.func (Fn.func 55) [] [V.ptr 7 0],V.str [83,73,90,69],V.func (Fn.func 55) [] [V.ptr 8 0]],Blk.row [V.ptr 1 0] 86 1,
 Blk.row [V.ptr 1 1] 86 1,Blk.row [V.ptr 1 2] 86 1,Blk.row [V.ptr 1 3] 86 1,Blk.row [V.ptr 1 4] 86 1,Blk.row [V.ptr 1 5] 86 1]else R Exit.normal [some (V.ptr 0 0),
 some (V.ptr 1 0),some (V.map 2),some (V.lst y m ds),some (V.int IntKind.i64 (↑m:Int)),some (V.int IntKind.i64 (IntKind.i64.wrap (i+1)))] [Blk.row [V.bool false,
 V.bool false,V.bool false,V.bool false,V.bool false,V.bool false,V.int IntKind.i64 0] 34 7,Blk.row [V.bool a1,V.bool a2,V.bool a3,V.bool true,V.bool a5,V.bool
 true,V.int IntKind.i64 mo] 34 7,Blk.mp [V.str [83,84,65,82,84,84,76,83],V.func (Fn.func 55) [] [V.ptr 3 0],V.str [80,73,80,69,76,73,78,73,78,71],
 V.func (Fn.func 55) [] [V.ptr 4 0],V.str [82,69,81,85,73,82,69,84,76,83],V.func (Fn.func 55) [] [V.ptr 5 0],V.str [68,83,78],V.func (Fn.func 55) [] [V.ptr
 6 0],V.str [56,66,73,84,77,73,77,69],V.func (Fn.func 55) [] [V.ptr 7 0],V.str [83,73,90,69],V.func (Fn.func 55) [] [V.ptr 8 0]],Blk.row [V.ptr 1 0] 86 1,
 Blk.row [V.ptr 1 1] 86 1,Blk.row [V.ptr 1 2] 86 1,Blk.row [V.ptr 1 3] 86 1,Blk.row [V.ptr 1 4] 86 1,Blk.row [V.ptr 1 5] 86 1]else False else False else False else R
 Exit.normal [some (V.ptr 0 0),some (V.ptr 1 0),some (V.map 2),some (V.lst y m ds),some (V.int IntKind.i64 (↑m:Int)),some (V.int IntKind.i64 (IntKind.i64.wrap (i+
 1)))] [Blk.row [V.bool false,V.bool false,V.bool false,V.bool false,V.bool false,V.bool false,V.int IntKind.i64 0] 34 7,Blk.row [V.bool a1,V.bool a2,V.bool a3,
 V.bool true,V.bool a5,V.bool a6,V.int IntKind.i64 mo] 34 7,Blk.mp [V.str [83,84,65,82,84,84,76,83],V.func (Fn.func 55) [] [V.ptr 3 0],V.str [80,73,80,69,
 76,73,78,73,78,71],V.func (Fn.func 55) [] [V.ptr 4 0],V.str [82,69,81,85,73,82,69,84,76,83],V.func (Fn.func 55) [] [V.ptr 5 0],V.str [68,83,78],
 V.func (Fn.func 55) [] [V.ptr 6 0],V.str [56,66,73,84,77,73,77,69],V.func (Fn.func 55) [] [V.ptr 7 0],V.str [83,73,90,69],V.func (Fn.func 55) [] [V.ptr 8
 0]],Blk.row [V.ptr 1 0] 86 1,Blk.row [V.ptr 1 1] 86 1,Blk.row [V.ptr 1 2] 86 1,Blk.row [V.ptr 1 3] 86 1,Blk.row [V.ptr 1 4] 86 1,Blk.row [V.ptr 1 5] 86 1]else bif
 eqS (UP (strOfV (ds.getD (i.toNat*1) (V.bool false)))) [56,66,73,84,77,73,77,69]then bif decide ((↑(UP (strOfV (ds.getD (i.toNat*1) (V.bool false)))).length:
 Int)≥5)then bif true&&Nat.ble 5 (UP (strOfV (ds.getD (i.toNat*1) (V.bool false)))).length then bif !List.take 5 (List.drop 0 (UP (strOfV (ds.getD (i.toNat*1)
 (V.bool false)))))==[83,73,90,69,32]then R Exit.normal [some (V.ptr 0 0),some (V.ptr 1 0),some (V.map 2),some (V.lst y m ds),some (V.int IntKind.i64 (↑m:
 Int)),some (V.int IntKind.i64 (IntKind.i64.wrap (i+1)))] [Blk.row [V.bool false,V.bool false,V.bool false,V.bool false,V.bool false,V.bool false,V.int
 IntKind.i64 0] 34 7,Blk.row [V.bool a1,V.bool a2,V.bool a3,V.bool a4,V.bool true,V.bool a6,V.int IntKind.i64 mo] 34 7,Blk.mp [V.str [83,84,65,82,84,84,76,
 83],V.func (Fn.func 55) [] [V.ptr 3 0],V.str [80,73,80,69,76,73,78,73,78,71],V.func (Fn.func 55) [] [V.ptr 4 0],V.str [82,69,81,85,73,82,69,84,76,
 83],V.func (Fn.func 55) [] [V.ptr 5 0],V.str [68,83,78],V.func (Fn.func 55) [] [V.ptr 6 0],V.str [56,66,73,84,77,73,77,69],V.func (Fn.func 55) [] [V.ptr 7
 0],V.str [83,73,90,69],V.func (Fn.func 55) [] [V.ptr 8 0]],Blk.row [V.ptr 1 0] 86 1,Blk.row [V.ptr 1 1] 86 1,Blk.row [V.ptr 1 2] 86 1,Blk.row [V.ptr 1 3] 86 1,
 Blk.row [V.ptr 1 4] 86 1,Blk.row [V.ptr 1 5] 86 1]else bif Nat.ble 5 (UP (strOfV (ds.getD (i.toNat*1) (V.bool false)))).length&&(UP (strOfV (ds.getD (i.toNat*1)
 (V.bool false)))).length.ble (UP (strOfV (ds.getD (i.toNat*1) (V.bool false)))).length then bif OL (List.take ((UP (strOfV (ds.getD (i.toNat*1) (V.bool
 false)))).length-5) (List.drop 5 (UP (strOfV (ds.getD (i.toNat*1) (V.bool false))))))&&true then bif NE (List.take ((UP (strOfV (ds.getD (i.toNat*1) (V.bool
 false)))).length-5) (List.drop 5 (UP (strOfV (ds.getD (i.toNat*1) (V.bool false)))))) 1099511627776==4 then R Exit.normal [some (V.ptr 0 0),some (V.ptr 1 0),some
 (V.map 2),some (V.lst y m ds),some (V.int IntKind.i64 (↑m:Int)),some (V.int IntKind.i64 (IntKind.i64.wrap (i+1)))] [Blk.row [V.bool false,V.bool false,V.bool
 false,V.bool false,V.bool false,V.bool false,V.int IntKind.i64 0] 34 7,Blk.row [V.bool a1,V.bool a2,V.bool a3,V.bool a4,V.bool true,V.bool a6,V.int IntKind.i64
 mo] 34 7,Blk.mp [V.str [83,84,65,82,84,84,76,83],V.func (Fn.func 55) [] [V.ptr 3 0],V.str [80,73,80,69,76,73,78,73,78,71],V.func (Fn.func 55) []
 [V.ptr 4 0],V.str [82,69,81,85,73,82,69,84,76,83],V.func (Fn.func 55) [] [V.ptr 5 0],V.str [68,83,78],V.func (Fn.func 55) [] [V.ptr 6 0],V.str [56,66,
 73,84,77,73,77,69],V.func (Fn.func 55) [] [V.ptr 7 0],V.str [83,73,90,69],V.func (Fn.func 55) [] [V.ptr 8 0]],Blk.row [V.ptr 1 0] 86 1,Blk.row [V.ptr 1 1] 86
 1,Blk.row [V.ptr 1 2] 86 1,Blk.row [V.ptr 1 3] 86 1,Blk.row [V.ptr 1 4] 86 1,Blk.row [V.ptr 1 5] 86 1]else bif mo==0 then R Exit.normal [some (V.ptr 0 0),some
 (V.ptr 1 0),some (V.map 2),some (V.lst y m ds),some (V.int IntKind.i64 (↑m:Int)),some (V.int IntKind.i64 (IntKind.i64.wrap (i+1)))] [Blk.row [V.bool false,V.bool
 false,V.bool false,V.bool false,V.bool false,V.bool false,V.int IntKind.i64 0] 34 7,Blk.row [V.bool a1,V.bool a2,V.bool a3,V.bool a4,V.bool true,V.bool true,
 V.int IntKind.i64 (NV (List.take ((UP (strOfV (ds.getD (i.toNat*1) (V.bool false)))).length-5) (List.drop 5 (UP (strOfV (ds.getD (i.toNat*1) (V.bool false))))))
 1099511627776)] 34 7,Blk.mp [V.str [83,84,65,82,84,84,76,83],V.func (Fn.func 55) [] [V.ptr 3 0],V.str [80,73,80,69,76,73,78,73,78,71],V.func (Fn.func
 55) [] [V.ptr 4 0],V.str [82,69,81,85,73,82,69,84,76,83],V.func (Fn.func 55) [] [V.ptr 5 0],V.str [68,83,78],V.func (Fn.func 55) [] [V.ptr 6 0],V.str [56,
 66,73,84,77,73,77,69],V.func (Fn.func 55) [] [V.ptr 7 0],V.str [83,73,90,69],V.func (Fn.func 55) [] [V.ptr 8 0]],Blk.row [V.ptr 1 0] 86 1,Blk.row [V.ptr 1
 1] 86 1,Blk.row [V.ptr 1 2] 86 1,Blk.row [V.ptr 1 3] 86 1,Blk.row [V.ptr 1 4] 86 1,Blk.row [V.ptr 1 5] 86 1]else R Exit.normal [some (V.ptr 0 0),some (V.ptr 1 0),
 some (V.map 2),some (V.lst y m ds),some (V.int IntKind.i64 (↑m:Int)),some (V.int IntKind.i64 (IntKind.i64.wrap (i+1)))] [Blk.row [V.bool false,V.bool false,
 V.bool false,V.bool false,V.bool false,V.bool false,V.int IntKind.i64 0] 34 7,Blk.row [V.bool a1,V.bool a2,V.bool a3,V.bool a4,V.bool true,V.bool true,V.int
 IntKind.i64 mo] 34 7,Blk.mp [V.str [83,84,65,82,84,84,76,83],V.func (Fn.func 55) [] [V.ptr 3 0],V.str [80,73,80,69,76,73,78,73,78,71],V.func (Fn.func
 55) [] [V.ptr 4 0],V.str [82,69,81,85,73,82,69,84,76,83],V.func (Fn.func 55) [] [V.ptr 5 0],V.str [68,83,78],V.func (Fn.func 55) [] [V.ptr 6 0],V.str [56,
 66,73,84,77,73,77,69],V.func (Fn.func 55) [] [V.ptr 7 0],V.str [83,73,90,69],V.func (Fn.func 55) [] [V.ptr 8 0]],Blk.row [V.ptr 1 0] 86 1,Blk.row [V.ptr 1
 1] 86 1,Blk.row [V.ptr 1 2] 86 1,Blk.row [V.ptr 1 3] 86 1,Blk.row [V.ptr 1 4] 86 1,Blk.row [V.ptr 1 5] 86 1]else False else False else False else R Exit.normal [some
 (V.ptr 0 0),some (V.ptr 1 0),some (V.map 2),some (V.lst y m ds),some (V.int IntKind.i64 (↑m:Int)),some (V.int IntKind.i64 (IntKind.i64.wrap (i+1)))] [Blk.row
 [V.bool false,V.bool false,V.bool false,V.bool false,V.bool false,V.bool false,V.int IntKind.i64 0] 34 7,Blk.row [V.bool a1,V.bool a2,V.bool a3,V.bool a4,
 V.bool true,V.bool a6,V.int IntKind.i64 mo] 34 7,Blk.mp [V.str [83,84,65,82,84,84,76,83],V.func (Fn.func 55) [] [V.ptr 3 0],V.str [80,73,80,69,76,73,78,
 73,78,71],V.func (Fn.func 55) [] [V.ptr 4 0],V.str [82,69,81,85,73,82,69,84,76,83],V.func (Fn.func 55) [] [V.ptr 5 0],V.str [68,83,78],V.func (Fn.func
 55) [] [V.ptr 6 0],V.str [56,66,73,84,77,73,77,69],V.func (Fn.func 55) [] [V.ptr 7 0],V.str [83,73,90,69],V.func (Fn.func 55) [] [V.ptr 8 0]],Blk.row
 [V.ptr 1 0] 86 1,Blk.row [V.ptr 1 1] 86 1,Blk.row [V.ptr 1 2] 86 1,Blk.row [V.ptr 1 3] 86 1,Blk.row [V.ptr 1 4] 86 1,Blk.row [V.ptr 1 5] 86 1]else bif eqS (UP
 (strOfV (ds.getD (i.toNat*1) (V.bool false)))) [83,73,90,69]then bif decide ((↑(UP (strOfV (ds.getD (i.toNat*1) (V.bool false)))).length:Int)≥5)then bif true
 &&Nat.ble 5 (UP (strOfV (ds.getD (i.toNat*1) (V.bool false)))).length then bif !List.take 5 (List.drop 0 (UP (strOfV (ds.getD (i.toNat*1) (V.bool false)))))==[83,
 73,90,69,32]then R Exit.normal [some (V.ptr 0 0),some (V.ptr 1 0),some (V.map 2),some (V.lst y m ds),some (V.int IntKind.i64 (↑m:Int)),some (V.int IntKind.i64
 (IntKind.i64.wrap (i+1)))] [Blk.row [V.bool false,V.bool false,V.bool false,V.bool false,V.bool false,V.bool false,V.int IntKind.i64 0] 34 7,Blk.row [V.bool a1,
 V.bool a2,V.bool a3,V.bool a4,V.bool a5,V.bool true,V.int IntKind.i64 mo] 34 7,Blk.mp [V.str [83,84,65,82,84,84,76,83],V.func (Fn.func 55) [] [V.ptr 3 0],
 V.str [80,73,80,69,76,73,78,73,78,71],V.func (Fn.func 55) [] [V.ptr 4 0],V.str [82,69,81,85,73,82,69,84,76,83],V.func (Fn.func 55) [] [V.ptr 5 0],
 V.str [68,83,78],V.func (Fn.func 55) [] [V.ptr 6 0],V.str [56,66,73,84,77,73,77,69],V.func (Fn.func 55) [] [V.ptr 7 0],V.str [83,73,90,69],V.func
 (Fn.func 55) [] [V.ptr 8 0]],Blk.row [V.ptr 1 0] 86 1,Blk.row [V.ptr 1 1] 86 1,Blk.row [V.ptr 1 2] 86 1,Blk.row [V.ptr 1 3] 86 1,Blk.row [V.ptr 1 4] 86 1,Blk.row
 [V.ptr 1 5] 86 1]else bif Nat.ble 5 (UP (strOfV (ds.getD (i.toNat*1) (V.bool false)))).length&&(UP (strOfV (ds.getD (i.toNat*1) (V.bool false)))).length.ble (UP
 (strOfV (ds.getD (i.toNat*1) (V.bool false)))).length then bif OL (List.take ((UP (strOfV (ds.getD (i.toNat*1) (V.bool false)))).length-5) (List.drop 5 (UP (strOfV
 (ds.getD (i.toNat*1) (V.bool false))))))&&true then bif NE (List.take ((UP (strOfV (ds.getD (i.toNat*1) (V.bool false)))).length-5) (List.drop 5 (UP (strOfV
 (ds.getD (i.toNat*1) (V.bool false)))))) 1099511627776==4 then R Exit.normal [some (V.ptr 0 0),some (V.ptr 1 0),some (V.map 2),some (V.lst y m ds),some (V.int
 IntKind.i64 (↑m:Int)),some (V.int IntKind.i64 (IntKind.i64.wrap (i+1)))] [Blk.row [V.bool false,V.bool false,V.bool false,V.bool false,V.bool false,V.bool
 false,V.int IntKind.i64 0] 34 7,Blk.row [V.bool a1,V.bool a2,V.bool a3,V.bool a4,V.bool a5,V.bool true,V.int IntKind.i64 mo] 34 7,Blk.mp [V.str [83,84,65,82,
 84,84,76,83],V.func (Fn.func 55) [] [V.ptr 3 0],V.str [80,73,80,69,76,73,78,73,78,71],V.func (Fn.func 55) [] [V.ptr 4 0],V.str [82,69,81,85,73,82,
 69,84,76,83],V.func (Fn.func 55) [] [V.ptr 5 0],V.str [68,83,78],V.func (Fn.func 55) [] [V.ptr 6 0],V.str [56,66,73,84,77,73,77,69],V.func (Fn.func 55)
 [] [V.ptr 7 0],V.str [83,73,90,69],V.func (Fn.func 55) [] [V.ptr 8 0]],Blk.row [V.ptr 1 0] 86 1,Blk.row [V.ptr 1 1] 86 1,Blk.row [V.ptr 1 2] 86 1,Blk.row [V.ptr
 1 3] 86 1,Blk.row [V.ptr 1 4] 86 1,Blk.row [V.ptr 1 5] 86 1]else bif mo==0 then R Exit.normal [some (V.ptr 0 0),some (V.ptr 1 0),some (V.map 2),some (V.lst y m
 ds),some (V.int IntKind.i64 (↑m:Int)),some (V.int IntKind.i64 (IntKind.i64.wrap (i+1)))] [Blk.row [V.bool false,V.bool false,V.bool false,V.bool false,V.bool
 false,V.bool false,V.int IntKind.i64 0] 34 7,Blk.row [V.bool a1,V.bool a2,V.bool a3,V.bool a4,V.bool a5,V.bool true,V.int IntKind.i64 (NV (List.take ((UP (strOfV
 (ds.getD (i.toNat*1) (V.bool false)))).length-5) (List.drop 5 (UP (strOfV (ds.getD (i.toNat*1) (V.bool false)))))) 1099511627776)] 34 7,Blk.mp [V.str [83,84,65,
 82,84,84,76,83],V.func (Fn.func 55) [] [V.ptr 3 0],V.str [80,73,80,69,76,73,78,73,78,71],V.func (Fn.func 55) [] [V.ptr 4 0],V.str [82,69,81,85,73,
 82,69,84,76,83],V.func (Fn.func 55) [] [V.ptr 5 0],V.str [68,83,78],V.func (Fn.func 55) [] [V.ptr 6 0],V.str [56,66,73,84,77,73,77,69],V.func (Fn.func
 55) [] [V.ptr 7 0],V.str [83,73,90,69],V.func (Fn.func 55) [] [V.ptr 8 0]],Blk.row [V.ptr 1 0] 86 1,Blk.row [V.ptr 1 1] 86 1,Blk.row [V.ptr 1 2] 86 1,Blk.row
 [V.ptr 1 3] 86 1,Blk.row [V.ptr 1 4] 86 1,Blk.row [V.ptr 1 5] 86 1]else R Exit.normal [some (V.ptr 0 0),some (V.ptr 1 0),some (V.map 2),some (V.lst y m ds),some
 (V.int IntKind.i64 (↑m:Int)),some (V.int IntKind.i64 (IntKind.i64.wrap (i+1)))] [Blk.row [V.bool false,V.bool false,V.bool false,V.bool false,V.bool false,
 V.bool false,V.int IntKind.i64 0] 34 7,Blk.row [V.bool a1,V.bool a2,V.bool a3,V.bool a4,V.bool a5,V.bool true,V.int IntKind.i64 mo] 34 7,Blk.mp [V.str [83,84,
 65,82,84,84,76,83],V.func (Fn.func 55) [] [V.ptr 3 0],V.str [80,73,80,69,76,73,78,73,78,71],V.func (Fn.func 55) [] [V.ptr 4 0],V.str [82,69,81,85,
 73,82,69,84,76,83],V.func (Fn.func 55) [] [V.ptr 5 0],V.str [68,83,78],V.func (Fn.func 55) [] [V.ptr 6 0],V.str [56,66,73,84,77,73,77,69],V.func
 (Fn.func 55) [] [V.ptr 7 0],V.str [83,73,90,69],V.func (Fn.func 55) [] [V.ptr 8 0]],Blk.row [V.ptr 1 0] 86 1,Blk.row [V.ptr 1 1] 86 1,Blk.row [V.ptr 1 2] 86 1,
 Blk.row [V.ptr 1 3] 86 1,Blk.row [V.ptr 1 4] 86 1,Blk.row [V.ptr 1 5] 86 1]else False else False else False else R Exit.normal [some (V.ptr 0 0),some (V.ptr 1 0),
 some (V.map 2),some (V.lst y m ds),some (V.int IntKind.i64 (↑m:Int)),some (V.int IntKind.i64 (IntKind.i64.wrap (i+1)))] [Blk.row [V.bool false,V.bool false,
 V.bool false,V.bool false,V.bool false,V.bool false,V.int IntKind.i64 0] 34 7,Blk.row [V.bool a1,V.bool a2,V.bool a3,V.bool a4,V.bool a5,V.bool true,V.int
 IntKind.i64 mo] 34 7,Blk.mp [V.str [83,84,65,82,84,84,76,83],V.func (Fn.func 55) [] [V.ptr 3 0],V.str [80,73,80,69,76,73,78,73,78,71],V.func (Fn.func
 55) [] [V.ptr 4 0],V.str [82,69,81,85,73,82,69,84,76,83],V.func (Fn.func 55) [] [V.ptr 5 0],V.str [68,83,78],V.func (Fn.func 55) [] [V.ptr 6 0],V.str [56,
 66,73,84,77,73,77,69],V.func (Fn.func 55) [] [V.ptr 7 0],V.str [83,73,90,69],V.func (Fn.func 55) [] [V.ptr 8 0]],Blk.row [V.ptr 1 0] 86 1,Blk.row [V.ptr 1
 1] 86 1,Blk.row [V.ptr 1 2] 86 1,Blk.row [V.ptr 1 3] 86 1,Blk.row [V.ptr 1 4] 86 1,Blk.row [V.ptr 1 5] 86 1]else bif decide ((↑(UP (strOfV (ds.getD (i.toNat*1)
 (V.bool false)))).length:Int)≥5)then bif true&&Nat.ble 5 (UP (strOfV (ds.getD (i.toNat*1) (V.bool false)))).length then bif !List.take 5 (List.drop 0 (UP (strOfV
 (ds.getD (i.toNat*1) (V.bool false)))))==[83,73,90,69,32]then R Exit.normal [some (V.ptr 0 0),some (V.ptr 1 0),some (V.map 2),some (V.lst y m ds),some (V.int
 IntKind.i64 (↑m:Int)),some (V.int IntKind.i64 (IntKind.i64.wrap (i+1)))] [Blk.row [V.bool false,V.bool false,V.bool false,V.bool false,V.bool false,V.bool
 false,V.int IntKind.i64 0] 34 7,Blk.row [V.bool a1,V.bool a2,V.bool a3,V.bool a4,V.bool a5,V.bool a6,V.int IntKind.i64 mo] 34 7,Blk.mp [V.str [83,84,65,82,
 84,84,76,83],V.func (Fn.func 55) [] [V.ptr 3 0],V.str [80,73,80,69,76,73,78,73,78,71],V.func (Fn.func 55) [] [V.ptr 4 0],V.str [82,69,81,85,73,82,
 69,84,76,83],V.func (Fn.func 55) [] [V.ptr 5 0],V.str [68,83,78],V.func (Fn.func 55) [] [V.ptr 6 0],V.str [56,66,73,84,77,73,77,69],V.func (Fn.func 55)
 [] [V.ptr 7 0],V.str [83,73,90,69],V.func (Fn.func 55) [] [V.ptr 8 0]],Blk.row [V.ptr 1 0] 86 1,Blk.row [V.ptr 1 1] 86 1,Blk.row [V.ptr 1 2] 86 1,Blk.row [V.ptr
 1 3] 86 1,Blk.row [V.ptr 1 4] 86 1,Blk.row [V.ptr 1 5] 86 1]else bif Nat.ble 5 (UP (strOfV (ds.getD (i.toNat*1) (V.bool false)))).length&&(UP (strOfV (ds.getD
 (i.toNat*1) (V.bool false)))).length.ble (UP (strOfV (ds.getD (i.toNat*1) (V.bool false)))).length then bif OL (List.take ((UP (strOfV (ds.getD (i.toNat*1) (V.bool
 false)))).length-5) (List.drop 5 (UP (strOfV (ds.getD (i.toNat*1) (V.bool false))))))&&true then bif NE (List.take ((UP (strOfV (ds.getD (i.toNat*1) (V.bool
 false)))).length-5) (List.drop 5 (UP (strOfV (ds.getD (i.toNat*1) (V.bool false)))))) 1099511627776==4 then R Exit.normal [some (V.ptr 0 0),some (V.ptr 1 0),some
 (V.map 2),some (V.lst y m ds),some (V.int IntKind.i64 (↑m:Int)),some (V.int IntKind.i64 (IntKind.i64.wrap (i+1)))] [Blk.row [V.bool false,V.bool false,V.bool
 false,V.bool false,V.bool false,V.bool false,V.int IntKind.i64 0] 34 7,Blk.row [V.bool a1,V.bool a2,V.bool a3,V.bool a4,V.bool a5,V.bool a6,V.int IntKind.i64
 mo] 34 7,Blk.mp [V.str [83,84,65,82,84,84,76,83],V.func (Fn.func 55) [] [V.ptr 3 0],V.str [80,73,80,69,76,73,78,73,78,71],V.func (Fn.func 55) []
 [V.ptr 4 0],V.str [82,69,81,85,73,82,69,84,76,83],V.func (Fn.func 55) [] [V.ptr 5 0],V.str [68,83,78],V.func (Fn.func 55) [] [V.ptr 6 0],V.str [56,66,
 73,84,77,73,77,69],V.func (Fn.func 55) [] [V.ptr 7 0],V.str [83,73,90,69],V.func (Fn.func 55) [] [V.ptr 8 0]],Blk.row [V.ptr 1 0] 86 1,Blk.row [V.ptr 1 1] 86
 1,Blk.row [V.ptr 1 2] 86 1,Blk.row [V.ptr 1 3] 86 1,Blk.row [V.ptr 1 4] 86 1,Blk.row [V.ptr 1 5] 86 1]else bif mo==0 then R Exit.normal [some (V.ptr 0 0),some
 (V.ptr 1 0),some (V.map 2),some (V.lst y m ds),some (V.int IntKind.i64 (↑m:Int)),some (V.int IntKind.i64 (IntKind.i64.wrap (i+1)))] [Blk.row [V.bool false,V.bool
 false,V.bool false,V.bool false,V.bool false,V.bool false,V.int IntKind.i64 0] 34 7,Blk.row [V.bool a1,V.bool a2,V.bool a3,V.bool a4,V.bool a5,V.bool true,
 V.int IntKind.i64 (NV (List.take ((UP (strOfV (ds.getD (i.toNat*1) (V.bool false)))).length-5) (List.drop 5 (UP (strOfV (ds.getD (i.toNat*1) (V.bool false))))))
 1099511627776)] 34 7,Blk.mp [V.str [83,84,65,82,84,84,76,83],V.func (Fn.func 55) [] [V.ptr 3 0],V.str [80,73,80,69,76,73,78,73,78,71],V.func (Fn.func
 55) [] [V.ptr 4 0],V.str [82,69,81,85,73,82,69,84,76,83],V.func (Fn.func 55) [] [V.ptr 5 0],V.str [68,83,78],V.func (Fn.func 55) [] [V.ptr 6 0],V.str [56,
 66,73,84,77,73,77,69],V.func (Fn.func 55) [] [V.ptr 7 0],V.str [83,73,90,69],V.func (Fn.func 55) [] [V.ptr 8 0]],Blk.row [V.ptr 1 0] 86 1,Blk.row [V.ptr 1
 1] 86 1,Blk.row [V.ptr 1 2] 86 1,Blk.row [V.ptr 1 3] 86 1,Blk.row [V.ptr 1 4] 86 1,Blk.row [V.ptr 1 5] 86 1]else R Exit.normal [some (V.ptr 0 0),some (V.ptr 1 0),
 some (V.map 2),some (V.lst y m ds),some (V.int IntKind.i64 (↑m:Int)),some (V.int IntKind.i64 (IntKind.i64.wrap (i+1)))] [Blk.row [V.bool false,V.bool false,
 V.bool false,V.bool false,V.bool false,V.bool false,V.int IntKind.i64 0] 34 7,Blk.row [V.bool a1,V.bool a2,V.bool a3,V.bool a4,V.bool a5,V.bool true,V.int
 IntKind.i64 mo] 34 7,Blk.mp [V.str [83,84,65,82,84,84,76,83],V.func (Fn.func 55) [] [V.ptr 3 0],V.str [80,73,80,69,76,73,78,73,78,71],V.func (Fn.func
 55) [] [V.ptr 4 0],V.str [82,69,81,85,73,82,69,84,76,83],V.func (Fn.func 55) [] [V.ptr 5 0],V.str [68,83,78],V.func (Fn.func 55) [] [V.ptr 6 0],V.str [56,
 66,73,84,77,73,77,69],V.func (Fn.func 55) [] [V.ptr 7 0],V.str [83,73,90,69],V.func (Fn.func 55) [] [V.ptr 8 0]],Blk.row [V.ptr 1 0] 86 1,Blk.row [V.ptr 1
 1] 86 1,Blk.row [V.ptr 1 2] 86 1,Blk.row [V.ptr 1 3] 86 1,Blk.row [V.ptr 1 4] 86 1,Blk.row [V.ptr 1 5] 86 1]else False else False else False else R Exit.normal [some
 (V.ptr 0 0),some (V.ptr 1 0),some (V.map 2),some (V.lst y m ds),some (V.int IntKind.i64 (↑m:Int)),some (V.int IntKind.i64 (IntKind.i64.wrap (i+1)))] [Blk.row
 [V.bool false,V.bool false,V.bool false,V.bool false,V.bool false,V.bool false,V.int IntKind.i64 0] 34 7,Blk.row [V.bool a1,V.bool a2,V.bool a3,V.bool a4,
 V.bool a5,V.bool a6,V.int IntKind.i64 mo] 34 7,Blk.mp [V.str [83,84,65,82,84,84,76,83],V.func (Fn.func 55) [] [V.ptr 3 0],V.str [80,73,80,69,76,73,78,
 73,78,71],V.func (Fn.func 55) [] [V.ptr 4 0],V.str [82,69,81,85,73,82,69,84,76,83],V.func (Fn.func 55) [] [V.ptr 5 0],V.str [68,83,78],V.func (Fn.func
 55) [] [V.ptr 6 0],V.str [56,66,73,84,77,73,77,69],V.func (Fn.func 55) [] [V.ptr 7 0],V.str [83,73,90,69],V.func (Fn.func 55) [] [V.ptr 8 0]],Blk.row
 [V.ptr 1 0] 86 1,Blk.row [V.ptr 1 1] 86 1,Blk.row [V.ptr 1 2] 86 1,Blk.row [V.ptr 1 3] 86 1,Blk.row [V.ptr 1 4] 86 1,Blk.row [V.ptr 1 5] 86 1]else False else False
 else False else False else R (Exit.exit 0) [some (V.ptr 0 0),some (V.ptr 1 0),some (V.map 2),some (V.lst y m ds),some (V.int IntKind.i64 (↑m:Int)),some (V.int
 IntKind.i64 i)] [Blk.row [V.bool false,V.bool false,V.bool false,V.bool false,V.bool false,V.bool false,V.int IntKind.i64 0] 34 7,Blk.row [V.bool a1,V.bool a2,
 V.bool a3,V.bool a4,V.bool a5,V.bool a6,V.int IntKind.i64 mo] 34 7,Blk.mp [V.str [83,84,65,82,84,84,76,83],V.func (Fn.func 55) [] [V.ptr 3 0],V.str [80,73,
 80,69,76,73,78,73,78,71],V.func (Fn.func 55) [] [V.ptr 4 0],V.str [82,69,81,85,73,82,69,84,76,83],V.func (Fn.func 55) [] [V.ptr 5 0],V.str [68,83,
 78],V.func (Fn.func 55) [] [V.ptr 6 0],V.str [56,66,73,84,77,73,77,69],V.func (Fn.func 55) [] [V.ptr 7 0],V.str [83,73,90,69],V.func (Fn.func 55) [] [V.ptr
 8 0]],Blk.row [V.ptr 1 0] 86 1,Blk.row [V.ptr 1 1] 86 1,Blk.row [V.ptr 1 2] 86 1,Blk.row [V.ptr 1 3] 86 1,Blk.row [V.ptr 1 4] 86 1,Blk.row [V.ptr 1 5] 86 1]):=by kernel_rfl
def cpV(c:CP):List V:=[.bool c.st,.bool c.pi,.bool c.rq,.bool c.ds,.bool c.eb,.bool c.si,.int .i64 c.mo]
theorem cpV_flat(c:CP):flatL (cpV c)=true:=rfl
def zeV:List V:=[.bool false,.bool false,.bool false,.bool false,.bool false,.bool false,.int .i64 0]
def coMem(c:List V):St:=[.row zeV 34 7,.row c 34 7,.mp [.str [83,84,65,82,84,84,76,83],.func (.func 55) [] [.ptr 3 0],.str [80,73,80,69,76,73,78,73,78,71],.func (.func 55) [] [.ptr 4 0],.str [82,69,81,85,73,82,69,84,76,83],.func (.func 55) [] [.ptr 5 0],.str [68,83,78],.func (.func 55) [] [.ptr 6 0],.str [56,66,73,84,77,73,77,69],.func (.func 55) [] [.ptr 7 0],.str [83,73,90,69],.func (.func 55) [] [.ptr 8 0]],.row [.ptr 1 0] 86 1,.row [.ptr 1 1] 86 1,.row [.ptr 1 2] 86 1,.row [.ptr 1 3] 86 1,.row [.ptr 1 4] 86 1,.row [.ptr 1 5] 86 1]
structure CO where
 c:CP
 y:Value
 m:Nat
 ds:List V
 i:Nat
def coV(x:CO):List V:=[.ptr 0 0,.ptr 1 0,.map 2,.lst x.y x.m x.ds,.int .i64 (x.m:Int),.int .i64 (x.i:Int)]
def coJ(x:CO):St:=coMem (cpV x.c)
def shortS(s:List UInt8):Bool:=Nat.ble s.length 30000
def coPre(x:CO):Bool:=okS x.m x.ds&&(Nat.ble x.i x.m&&(x.ds.map strOfV).all shortS)
def coMu(x:CO):Nat:=x.m-x.i
def cpOf:List V→CP
 |[.bool a,.bool b,.bool c,.bool d,.bool e,.bool f,.int .i64 m]=>⟨a,b,c,d,e,f,m⟩
 |_=>cp0
def coDec:List (Option V)→St→Option CO
 |[some (.ptr _ 0),some (.ptr k 0),some (.map _),some (.lst y m ds),some (.int .i64 _),some (.int .i64 0)],st=>match st[k]? with
  |some (.row c _ _)=>some ⟨cpOf c,y,m,ds,0⟩
  |_=>none
 |_,_=>none
def coF(ds:List V)(i:Nat)(c:CP):CP:=linesU numV numE ((ds.map strOfV).drop i) c
def coOutG(y:Value)(m:Nat)(ds:List V)(c:CP)(K:Exit→List V→St→Prop):Prop:=
 K (.exit 0) [.ptr 0 0,.ptr 1 0,.map 2,.lst y m ds,.int .i64 (m:Int),.int .i64 (m:Int)] (coMem (cpV c))
def coOut:Asks CO:=fun x K=>coOutG x.y x.m x.ds (coF x.ds x.i x.c) K
theorem co_fits(c:CP)(y:Value)(m:Nat)(ds:List V)(i:Int):Fits 0 [.ptr 0 0,.ptr 1 0,.map 2,.lst y m ds,.int .i64 (m:Int),.int .i64 i] (coMem (cpV c)) [some (.ptr 0 0),some (.ptr 1 0),some (.map 2),some (.lst y m ds),some (.int .i64 (m:Int)),some (.int .i64 i)] (coMem (cpV c)):=
 ⟨[0,1,2,3,4,5,6,7,8],[.ptr 0 0,.ptr 1 0,.map 2,.lst y m ds,.int .i64 (m:Int),.int .i64 i],rfl,rfl,FitsM.of ⟨fb rfl rfl,fb (cpV_flat c) rfl,.inr ⟨_,.inl rfl,rfl⟩,.inr ⟨_,.inl rfl,rfl⟩,.inr ⟨_,.inl rfl,rfl⟩,.inr ⟨_,.inl rfl,rfl⟩,.inr ⟨_,.inl rfl,rfl⟩,.inr ⟨_,.inl rfl,rfl⟩,.inr ⟨_,.inl rfl,rfl⟩,trivial⟩,by decide,fun i hi=>by omega⟩
theorem eqS_beq:∀a b:List UInt8,eqS a b=(a==b)
 |[],[]=>rfl
 |[],_::_=>rfl
 |_::_,[]=>rfl
 |a::r,b::t=>by
  show(_&&eqS r t)=_;rw[eqS_beq r t];cases hab:(a==b)with
  |true=>have:=eq_of_beq hab;subst this;simp
  |false=>
   have hne:=beq_eq_false_iff_ne.1 hab;have h1:a.toNat.beq b.toNat=false:=by
    cases h:a.toNat.beq b.toNat with
    |false=>rfl
    |true=>exact absurd (UInt8.toNat_inj.1 (Nat.eq_of_beq_eq_true h)) hne
   show(a.toNat.beq b.toNat&&r==t)=(a==b&&r==t);rw[h1,hab]
theorem line_word{w:List UInt8}{f:CP→CP}(hu:w.all isUp=true)(h:∀x,linesU numV numE [w] x=f x)(x:CP):lineU numV numE w x=f x:=by
 have:=h x;rw[linesU,linesU,up_id hu]at this;exact this
theorem line_not{u:List UInt8}(h:(u.take 5==wSZ)=false)(c:CP):lineU numV numE u c=setW u c:=by unfold lineU;rw[h];rfl
theorem set_not{u:List UInt8}(h1:(u==wST)=false)(h2:(u==wPI)=false)(h3:(u==wRQ)=false)(h4:(u==wDS)=false)(h5:(u==wEB)=false)(h6:(u==wSI)=false)(c:CP):setW u c=c:=by
 unfold setW;rw[h1,h2,h3,h4,h5,h6];simp only[Bool.or_false]
theorem line0(a1 a2 a3 a4 a5 a6:Bool)(mo:Int):lineU numV numE wST ⟨a1,a2,a3,a4,a5,a6,mo⟩=⟨true,a2,a3,a4,a5,a6,mo⟩:=by
 rw[line_word (w:=wST) rfl (said_st true)];simp only[Bool.or_true]
theorem line1(a1 a2 a3 a4 a5 a6:Bool)(mo:Int):lineU numV numE wPI ⟨a1,a2,a3,a4,a5,a6,mo⟩=⟨a1,true,a3,a4,a5,a6,mo⟩:=by
 rw[line_word (w:=wPI) rfl (said_pi true)];simp only[Bool.or_true]
theorem line2(a1 a2 a3 a4 a5 a6:Bool)(mo:Int):lineU numV numE wRQ ⟨a1,a2,a3,a4,a5,a6,mo⟩=⟨a1,a2,true,a4,a5,a6,mo⟩:=by
 rw[line_word (w:=wRQ) rfl (said_rq true)];simp only[Bool.or_true]
theorem line3(a1 a2 a3 a4 a5 a6:Bool)(mo:Int):lineU numV numE wDS ⟨a1,a2,a3,a4,a5,a6,mo⟩=⟨a1,a2,a3,true,a5,a6,mo⟩:=by
 rw[line_word (w:=wDS) rfl (said_ds true)];simp only[Bool.or_true]
theorem line4(a1 a2 a3 a4 a5 a6:Bool)(mo:Int):lineU numV numE wEB ⟨a1,a2,a3,a4,a5,a6,mo⟩=⟨a1,a2,a3,a4,true,a6,mo⟩:=by
 rw[line_word (w:=wEB) rfl (said_eb true)];simp only[Bool.or_true]
theorem line5(a1 a2 a3 a4 a5 a6:Bool)(mo:Int):lineU numV numE wSI ⟨a1,a2,a3,a4,a5,a6,mo⟩=⟨a1,a2,a3,a4,a5,true,mo⟩:=by
 rw[line_not rfl];unfold setW;rw[show(wSI==wST)=false from rfl,show(wSI==wPI)=false from rfl,show(wSI==wRQ)=false from rfl,show(wSI==wDS)=false from rfl,show(wSI==wEB)=false from rfl,show(wSI==wSI)=true from rfl];simp only[Bool.or_false,Bool.or_true]
theorem co_roundOk(x:CO)(hx:coPre x=true):roundW Tryd.prog (CO0 okL up numV numE) 9 20 (rounds 9) 22 250 [2,3,4,25,26,27] (coV x) (coJ x) (RoundOkA 0 coPre coV coJ coMu coOut x):=by
 obtain⟨⟨a1,a2,a3,a4,a5,a6,mo⟩,y,m,ds,i⟩:=x;unfold coPre at hx;simp only[Bool.and_eq_true]at hx;have hx1:okS m ds=true:=hx.1;have p1:i≤m:=Nat.le_of_ble_eq_true hx.2.1;have p4:(ds.map strOfV).all shortS=true:=hx.2.2;obtain⟨l,rfl,rfl,p2,p3⟩:=okS_spec hx1;rw[strs_strOf]at p4;show roundW Tryd.prog (CO0 okL up numV numE) 9 20 (rounds 9) 22 250 [2,3,4,25,26,27] [.ptr 0 0,.ptr 1 0,.map 2,.lst y l.length (strs l),.int .i64 (l.length:Int),.int .i64 (i:Int)] [.row [.bool false,.bool false,.bool false,.bool false,.bool false,.bool false,.int .i64 0] 34 7,.row [.bool a1,.bool a2,.bool a3,.bool a4,.bool a5,.bool a6,.int .i64 mo] 34 7,.mp [.str [83,84,65,82,84,84,76,83],.func (.func 55) [] [.ptr 3 0],.str [80,73,80,69,76,73,78,73,78,71],.func (.func 55) [] [.ptr 4 0],.str [82,69,81,85,73,82,69,84,76,83],.func (.func 55) [] [.ptr 5 0],.str [68,83,78],.func (.func 55) [] [.ptr 6 0],.str [56,66,73,84,77,73,77,69],.func (.func 55) [] [.ptr 7 0],.str [83,73,90,69],.func (.func 55) [] [.ptr 8 0]],.row [.ptr 1 0] 86 1,.row [.ptr 1 1] 86 1,.row [.ptr 1 2] 86 1,.row [.ptr 1 3] 86 1,.row [.ptr 1 4] 86 1,.row [.ptr 1 5] 86 1] _;rw[co_round];have out:∀K,coOut ⟨⟨a1,a2,a3,a4,a5,a6,mo⟩,y,l.length,strs l,i⟩ K→coOutG y l.length (strs l) (linesU numV numE (l.drop i) ⟨a1,a2,a3,a4,a5,a6,mo⟩) K:=fun K hK=>by
  have hK:coOutG y l.length (strs l) (coF (strs l) i ⟨a1,a2,a3,a4,a5,a6,mo⟩) K:=hK;unfold coF at hK;rw[strs_strOf]at hK;exact hK
 cases hd:l.drop i with
 |nil=>
  have hi:=dropA_nil hd p1;rw[decide_eq_false (show ¬((i:Int)<(l.length:Int)) by omega),cond_false];refine⟨_,_,fun K hK=>?_,co_fits ⟨a1,a2,a3,a4,a5,a6,mo⟩ y l.length (strs l) i⟩;have hK2:=out K hK;rw[hd]at hK2;subst hi;exact hK2
 |cons s r=>
  obtain⟨e1,e2,e3⟩:=dropA_cons hd;obtain⟨e4,e5⟩:=strs_at hd;have hs:s.length≤30000:=Nat.le_of_ble_eq_true (List.all_eq_true.1 p4 s (List.mem_of_mem_drop (by rw[hd];simp)));have hk:okL s=true:=decide_eq_true (by omega);have hul:=up_len s.length s (Nat.le_refl _);have q1:decide ((i:Int)<(l.length:Int))=true:=decide_eq_true (by omega);have q2:decide ((0:Int)≤(i:Int))=true:=decide_eq_true (by omega);have w1:IntKind.i64.wrap ((i:Int)+1)=((i+1:Nat):Int):=by rw[IntWalk.i64_in _ ⟨by omega,by omega⟩];omega
  simp only[q1,q2,Int.toNat_natCast,e4,e5,isStrV,strOfV,hk,cond_true,Bool.and_true,Bool.true_and,eqS_beq,w1,List.drop_zero];have next:∀c':CP,lineU numV numE (up s) ⟨a1,a2,a3,a4,a5,a6,mo⟩=c'→RoundOkA 0 coPre coV coJ coMu coOut ⟨⟨a1,a2,a3,a4,a5,a6,mo⟩,y,l.length,strs l,i⟩ .normal [some (.ptr 0 0),some (.ptr 1 0),some (.map 2),some (.lst y l.length (strs l)),some (.int .i64 (l.length:Int)),some (.int .i64 ((i+1:Nat):Int))] (coMem (cpV c')):=fun c' hc=>by
   refine⟨⟨c',y,l.length,strs l,i+1⟩,?_,co_fits c' y l.length (strs l) _,by simp only[coMu];omega,fun K hK=>?_⟩
   ·unfold coPre;simp only[Bool.and_eq_true];exact⟨hx1,Nat.ble_eq_true_of_le (show i+1≤l.length by omega),by rw[strs_strOf];exact p4⟩
   ·have hK:=out K hK;rw[hd,linesU,hc]at hK;show coOutG y l.length (strs l) (linesU numV numE (((strs l).map strOfV).drop (i+1)) c') K;rw[strs_strOf,e2];exact hK
  generalize up s=u at next hul ⊢
  refine bif_intro (fun h0=>?_) (fun h0=>?_)
  ·have hw:u=wST:=eq_of_beq h0;subst hw;exact next ⟨true,a2,a3,a4,a5,a6,mo⟩ (line0 a1 a2 a3 a4 a5 a6 mo)
  refine bif_intro (fun h1=>?_) (fun h1=>?_)
  ·have hw:u=wPI:=eq_of_beq h1;subst hw;exact next ⟨a1,true,a3,a4,a5,a6,mo⟩ (line1 a1 a2 a3 a4 a5 a6 mo)
  refine bif_intro (fun h2=>?_) (fun h2=>?_)
  ·have hw:u=wRQ:=eq_of_beq h2;subst hw;exact next ⟨a1,a2,true,a4,a5,a6,mo⟩ (line2 a1 a2 a3 a4 a5 a6 mo)
  refine bif_intro (fun h3=>?_) (fun h3=>?_)
  ·have hw:u=wDS:=eq_of_beq h3;subst hw;exact next ⟨a1,a2,a3,true,a5,a6,mo⟩ (line3 a1 a2 a3 a4 a5 a6 mo)
  refine bif_intro (fun h4=>?_) (fun h4=>?_)
  ·have hw:u=wEB:=eq_of_beq h4;subst hw;exact next ⟨a1,a2,a3,a4,true,a6,mo⟩ (line4 a1 a2 a3 a4 a5 a6 mo)
  refine bif_intro (fun h5=>?_) (fun h5=>?_)
  ·have hw:u=wSI:=eq_of_beq h5;subst hw;exact next ⟨a1,a2,a3,a4,a5,true,mo⟩ (line5 a1 a2 a3 a4 a5 a6 mo)
  have hset:=set_not h0 h1 h2 h3 h4 h5 ⟨a1,a2,a3,a4,a5,a6,mo⟩;have none:(u.take 5==wSZ)=false→RoundOkA 0 coPre coV coJ coMu coOut ⟨⟨a1,a2,a3,a4,a5,a6,mo⟩,y,l.length,strs l,i⟩ .normal [some (.ptr 0 0),some (.ptr 1 0),some (.map 2),some (.lst y l.length (strs l)),some (.int .i64 (l.length:Int)),some (.int .i64 ((i+1:Nat):Int))] (coMem (cpV ⟨a1,a2,a3,a4,a5,a6,mo⟩)):=fun h=>next _ (by rw[line_not h,hset])
  refine bif_intro (fun h6=>?_) (fun h6=>none ?_)
  ·have h6:=of_decide_eq_true h6;have e5:u.take (u.length-5+5)=u:=by rw[List.take_of_length_le];omega
   have ed:(u.drop 5).take (u.length-5)=u.drop 5:=List.take_of_length_le (by rw[List.length_drop];exact Nat.le_refl _);refine must_intro (Nat.ble_eq_true_of_le (by omega)) ?_;rw[ed];refine bif_intro (fun h7=>none ?_) (fun h7=>?_)
   ·cases h:(u.take 5==wSZ)with
    |false=>rfl
    |true=>have h:(List.take 5 u==[83,73,90,69,32])=true:=h;rw[h]at h7;cases h7
   ·have h7:(u.take 5==wSZ)=true:=by
     cases h:(u.take 5==wSZ)with
     |true=>rfl
     |false=>have h:(List.take 5 u==[83,73,90,69,32])=false:=h;rw[h]at h7;cases h7
    refine must_intro (by rw[Bool.and_eq_true];exact⟨Nat.ble_eq_true_of_le (by omega),Nat.ble_eq_true_of_le (Nat.le_refl _)⟩) (must_intro (decide_eq_true (by rw[List.length_drop];omega)) ?_);refine bif_intro (fun h8=>?_) (fun h8=>?_)
    ·exact next ⟨a1,a2,a3,a4,a5,a6,mo⟩ (by unfold lineU;rw[h7,h8];exact hset)
    ·refine bif_intro (fun h9=>?_) (fun h9=>?_)
     ·exact next ⟨a1,a2,a3,a4,a5,true,numV (u.drop 5) 1099511627776⟩ (by unfold lineU;rw[h7,h8,hset];simp only[h9];rfl)
     ·exact next ⟨a1,a2,a3,a4,a5,true,mo⟩ (by unfold lineU;rw[h7,h8,hset];simp only[h9];rfl)
  ·have h6:=of_decide_eq_false h6;cases h:(u.take 5==wSZ)with
   |false=>rfl
   |true=>
    have:=congrArg List.length (eq_of_beq h);rw[List.length_take]at this;have e:wSZ.length=5:=rfl;omega
noncomputable def lkCO:Nat→Trans→Trans:=withLoop 250 (loopA 0 (szOf Tryd.prog 22) [2,3,4,25,26,27] coDec coPre coV coJ coOut) (rounds 9)
theorem lkCO_ok:FnLoopsW Tryd.prog 0 lkCO 22:=by
 unfold lkCO;exact fnLoopW (fnRoundsW 9 0 22) (by kernel_rfl) fun f st Q h=>loopA_ok (P:=Tryd.prog) (T:=CO0 okL up numV numE) (k:=0) (lim:=9) (n:=20) (g:=22) (p0:=250) (lk:=rounds 9) mixed CO0_ok (roundsW 9 _ _) coMu co_roundOk h
noncomputable def COT:Tab:=⟨noT,noL,addLk (noLks 9) 22 0 lkCO⟩
theorem COT_ok:TabOk3 Tryd.prog COT:=⟨noT_ok,noL_ok,addLk_ok (noLks_ok 9) lkCO_ok⟩
theorem of_tree(co:Int)(en:List UInt8)(x:Value)(n:Nat)(cs:List V)(R:V→Prop):runW Tryd.prog COT 9 20 22 [.agg [.int .i64 co,.str en,.lst x n cs]] R=
  (
 bif co !=250 then R (V.agg [V.bool false,V.bool false,V.bool false,V.bool false,V.bool false,V.bool false,V.int IntKind.i64 0])else bif (↑n:Int)==0 then R
 (V.agg [V.bool false,V.bool false,V.bool false,V.bool false,V.bool false,V.bool false,V.int IntKind.i64 0])else bif Nat.ble 1 n&&n.ble n then Fits 0 [V.ptr 0 0,
 V.ptr 1 0,V.map 2,V.lst (sliceX x 1 n 1) (n-1) (List.take ((n-1)*1) (List.drop 1 cs)),V.int IntKind.i64 (↑(n-1):Int),V.int IntKind.i64 0] [Blk.row [V.bool
 false,V.bool false,V.bool false,V.bool false,V.bool false,V.bool false,V.int IntKind.i64 0] 34 7,Blk.row [V.bool false,V.bool false,V.bool false,V.bool false,
 V.bool false,V.bool false,V.int IntKind.i64 0] 34 7,Blk.mp [V.str [83,84,65,82,84,84,76,83],V.func (Fn.func 55) [] [V.ptr 3 0],V.str [80,73,80,69,76,73,
 78,73,78,71],V.func (Fn.func 55) [] [V.ptr 4 0],V.str [82,69,81,85,73,82,69,84,76,83],V.func (Fn.func 55) [] [V.ptr 5 0],V.str [68,83,78],V.func
 (Fn.func 55) [] [V.ptr 6 0],V.str [56,66,73,84,77,73,77,69],V.func (Fn.func 55) [] [V.ptr 7 0],V.str [83,73,90,69],V.func (Fn.func 55) [] [V.ptr 8 0]],
 Blk.row [V.ptr 1 0] 86 1,Blk.row [V.ptr 1 1] 86 1,Blk.row [V.ptr 1 2] 86 1,Blk.row [V.ptr 1 3] 86 1,Blk.row [V.ptr 1 4] 86 1,Blk.row [V.ptr 1 5] 86 1] [some (V.ptr 1
 0),some (V.ptr 2 0),some (V.map 3),some (V.lst (sliceX x 1 n 1) (n-1) (List.take ((n-1)*1) (List.drop 1 cs))),some (V.int IntKind.i64 (↑(n-1):Int)),some
 (V.int IntKind.i64 0)] [Blk.row [V.int IntKind.i64 co,V.str en,V.lst x n cs] 38 3,Blk.row [V.bool false,V.bool false,V.bool false,V.bool false,V.bool false,V.bool
 false,V.int IntKind.i64 0] 34 7,Blk.row [V.bool false,V.bool false,V.bool false,V.bool false,V.bool false,V.bool false,V.int IntKind.i64 0] 34 7,Blk.mp [V.str
 [83,84,65,82,84,84,76,83],V.func (Fn.func 55) [] [V.ptr 4 0],V.str [80,73,80,69,76,73,78,73,78,71],V.func (Fn.func 55) [] [V.ptr 5 0],V.str [82,69,
 81,85,73,82,69,84,76,83],V.func (Fn.func 55) [] [V.ptr 6 0],V.str [68,83,78],V.func (Fn.func 55) [] [V.ptr 7 0],V.str [56,66,73,84,77,73,77,69],
 V.func (Fn.func 55) [] [V.ptr 8 0],V.str [83,73,90,69],V.func (Fn.func 55) [] [V.ptr 9 0]],Blk.row [V.ptr 2 0] 86 1,Blk.row [V.ptr 2 1] 86 1,Blk.row [V.ptr 2 2]
 86 1,Blk.row [V.ptr 2 3] 86 1,Blk.row [V.ptr 2 4] 86 1,Blk.row [V.ptr 2 5] 86 1]∧bif coPre {c:={st:=false,pi:=false,rq:=false,ds:=false,eb:=false,si:=false,mo:=0},y:=sliceX x 1 n 1,m:=n-1,ds:=List.take ((n-1)*1) (List.drop 1 cs),i:=0}
 then R (V.agg [V.bool (coF (List.take ((n-1)*1) (List.drop 1 cs)) 0 {st:=false,pi:=false,rq:=false,ds:=false,eb:=false,si:=false,mo:=0}).st,
 V.bool (coF (List.take ((n-1)*1) (List.drop 1 cs)) 0 {st:=false,pi:=false,rq:=false,ds:=false,eb:=false,si:=false,mo:=0}).pi,V.bool (coF
 (List.take ((n-1)*1) (List.drop 1 cs)) 0 {st:=false,pi:=false,rq:=false,ds:=false,eb:=false,si:=false,mo:=0}).rq,V.bool (coF (List.take ((n-
 1)*1) (List.drop 1 cs)) 0 {st:=false,pi:=false,rq:=false,ds:=false,eb:=false,si:=false,mo:=0}).ds,V.bool (coF (List.take ((n-1)*1) (List.drop
 1 cs)) 0 {st:=false,pi:=false,rq:=false,ds:=false,eb:=false,si:=false,mo:=0}).eb,V.bool (coF (List.take ((n-1)*1) (List.drop 1 cs)) 0 {st:=false,pi:=false,rq:=false,ds:=false,eb:=false,si:=false,mo:=0}).si,
 V.int IntKind.i64 (coF (List.take ((n-1)*1) (List.drop 1 cs)) 0 {st:=false,pi:=false,rq:=false,ds:=false,eb:=false,si:=false,mo:=0}).mo])else
 False else False):=by kernel_rfl
theorem realL_one{Φ Ψ:Frz}{m m':List MB}{p:V}{b:List V}{f:Value→V}(hf:∀y,@real _ Φ m p=some y→@real _ Ψ m' (f y)=some y)(hb:plainL b=true):∀(a:List V) (xs:List Value),plainL a=true→@realL _ Φ m (a++p::b)=some xs→∃y,@realL _ Ψ m' (a++f y::b)=some xs
 |[],xs,_,h=>by
  obtain⟨y,r,q1,q2,rfl⟩:=@realL_cons _ Φ m _ _ _ h;exact⟨y,@realL_mk _ Ψ m' _ _ _ _ (hf y q1) (realL_plain _ _ hb q2)⟩
 |v::a,xs,ha,h=>by
  obtain⟨z,r,q1,q2,rfl⟩:=@realL_cons _ Φ m _ _ _ h;simp only[plainL,Bool.and_eq_true]at ha;obtain⟨y,hy⟩:=realL_one hf hb a r ha.2 q2;exact⟨y,@realL_mk _ Ψ m' _ _ _ _ (real_plain _ _ ha.1 q1) hy⟩
theorem agg_one{Φ Ψ:Frz}{m m':List MB}{p:V}{b:List V}{f:Value→V}(hf:∀y,@real _ Φ m p=some y→@real _ Ψ m' (f y)=some y)(a:List V)(ha:plainL a=true)(hb:plainL b=true){x:Value}(h:@real _ Φ m (.agg (a++p::b))=some x):∃y,@real _ Ψ m' (.agg (a++f y::b))=some x:=by
 obtain⟨xs,h0,rfl⟩:=@real_agg _ Φ m _ _ h;obtain⟨y,hy⟩:=realL_one hf hb a xs ha h0;exact⟨y,by simp only[real,hy]⟩
def ofC(co:Int)(l:List (List UInt8)):CP:=bif co==250 then linesU numV numE (l.drop 1) cp0 else cp0
theorem co_fitsE(c:CP)(y:Value)(m:Nat)(ds:List V)(i:Int)(b:Blk):Fits 0 [.ptr 0 0,.ptr 1 0,.map 2,.lst y m ds,.int .i64 (m:Int),.int .i64 i] (coMem (cpV c)) [some (.ptr 1 0),some (.ptr 2 0),some (.map 3),some (.lst y m ds),some (.int .i64 (m:Int)),some (.int .i64 i)] (b::[.row zeV 34 7,.row (cpV c) 34 7,.mp [.str [83,84,65,82,84,84,76,83],.func (.func 55) [] [.ptr 4 0],.str [80,73,80,69,76,73,78,73,78,71],.func (.func 55) [] [.ptr 5 0],.str [82,69,81,85,73,82,69,84,76,83],.func (.func 55) [] [.ptr 6 0],.str [68,83,78],.func (.func 55) [] [.ptr 7 0],.str [56,66,73,84,77,73,77,69],.func (.func 55) [] [.ptr 8 0],.str [83,73,90,69],.func (.func 55) [] [.ptr 9 0]],.row [.ptr 2 0] 86 1,.row [.ptr 2 1] 86 1,.row [.ptr 2 2] 86 1,.row [.ptr 2 3] 86 1,.row [.ptr 2 4] 86 1,.row [.ptr 2 5] 86 1]):=
 ⟨[1,2,3,4,5,6,7,8,9],[.ptr 1 0,.ptr 2 0,.map 3,.lst y m ds,.int .i64 (m:Int),.int .i64 i],rfl,rfl,FitsM.of ⟨fb rfl rfl,fb (cpV_flat c) rfl,.inr ⟨_,.inl rfl,rfl⟩,.inr ⟨_,.inl rfl,rfl⟩,.inr ⟨_,.inl rfl,rfl⟩,.inr ⟨_,.inl rfl,rfl⟩,.inr ⟨_,.inl rfl,rfl⟩,.inr ⟨_,.inl rfl,rfl⟩,.inr ⟨_,.inl rfl,rfl⟩,trivial⟩,by decide,fun i hi=>by omega⟩
theorem of_sat(co:Int)(en:List UInt8)(x:Value)(l:List (List UInt8))(h1:l.length≤9223372036854775807)(h2:l.all shortS=true):FnSat Tryd.prog 22 [.agg [.int .i64 co,.str en,lstS x l]] [] (Is (.agg (cpV (ofC co l)),[])):=by
 unfold lstS;refine pureW_of (lim:=9) (n:=20) mixed COT_ok rfl rfl ?_;rw[of_tree];unfold ofC;refine bif_intro (fun h=>?_) (fun h=>?_)
 ·have e:(co==250)=false:=by cases he:(co==250)with
   |false=>rfl
   |true=>have:(!(co==250))=true:=h;rw[he]at this;cases this
  rw[e];rfl
 have e:(co==250)=true:=by cases he:(co==250)with
  |true=>rfl
  |false=>have:(!(co==250))=false:=h;rw[he]at this;cases this
 rw[e,cond_true];refine bif_intro (fun h0=>?_) (fun h0=>?_)
 ·have h0:(l.length:Int)=0:=eq_of_beq h0;have:l=[]:=List.eq_nil_of_length_eq_zero (by omega);subst this;rfl
 ·have hl:1≤l.length:=by
   rcases Nat.eq_zero_or_pos l.length with hz|hz
   ·rw[hz]at h0;cases h0
   ·exact hz
  refine must_intro (by rw[Bool.and_eq_true];exact⟨Nat.ble_eq_true_of_le hl,Nat.ble_eq_true_of_le (Nat.le_refl _)⟩) ?_;have ec:List.take ((l.length-1)*1) (List.drop 1 (strs l))=strs (l.drop 1):=by
   unfold strs;rw[←List.map_drop,List.take_of_length_le (by rw[List.length_map,List.length_drop];omega)]
  have el:l.length-1=(l.drop 1).length:=(List.length_drop ..).symm;rw[ec,el];refine⟨co_fitsE cp0 (sliceX x 1 l.length 1) _ _ 0 _,must_intro ?_ ?_⟩
  ·unfold coPre;simp only[Bool.and_eq_true];refine⟨okS_mk (by rw[List.length_drop];omega),Nat.ble_eq_true_of_le (Nat.zero_le _),?_⟩;rw[strs_strOf,List.all_eq_true];exact fun s hs=>List.all_eq_true.1 h2 s (List.mem_of_mem_drop hs)
  ·have e:coF (strs (l.drop 1)) 0 ⟨false,false,false,false,false,false,0⟩=linesU numV numE (l.drop 1) cp0:=by unfold coF;rw[strs_strOf];rfl
   rw[e];rfl
def ofOK(p:V)(st:St):Bool:=match viewS st p with
 |some (b,l)=>b&&(Nat.ble l.length 9223372036854775807&&l.all shortS)
 |none=>false
def ofV(co:Int)(p:V)(st:St):CP:=match viewS st p with
 |some (_,l)=>ofC co l
 |none=>cp0
def ofGV(OK:V→St→Bool)(OV:Int→V→St→CP):List V→St→Option (List (Bool×(V×St)))
 |[.agg [.int .i64 co,.str _,p]],st=>some [(OK p st,(.agg (cpV (OV co p st)),st))]
 |_,_=>none
theorem ofGV_ok(args:List V)(s:St)(L:List (Bool×(V×St)))(o:V×St)(h:ofGV ofOK ofV args s=some L)(ho:pickO L=some o):FnSat Tryd.prog 22 args s (Is o):=by
 unfold ofGV at h;split at h
 ·rename_i co en p;cases h;obtain⟨hb,rfl⟩:=pickO_one ho;unfold ofOK at hb;split at hb
  ·rename_i b l hv;have hL:ofV co p s=ofC co l:=by unfold ofV;rw[hv]
   rw[hL];simp only[Bool.and_eq_true]at hb;obtain⟨rfl,h1,h2⟩:=hb;refine frz_sat rfl fun B W0 w m rargs hr ha=>?_;obtain⟨x1,r1,q1,q2,rfl⟩:=realL_cons ha;obtain⟨y1,g1⟩:=agg_one (Ψ:=Frz.of w) (m':=[]) (f:=fun y=>lstS y l) (fun y hy=>viewS_ok hr hv hy) [.int .i64 co,.str en] rfl (b:=[]) rfl q1;have q3:=realL_plain (Ψ:=Frz.of w) (m':=[]) _ _ rfl q2;exact⟨[.agg [.int .i64 co,.str en,lstS y1 l]],@realL_mk _ (Frz.of w) [] _ _ _ _ g1 q3,@of_sat (Frz.of w) co en y1 l (Nat.le_of_ble_eq_true h1) h2⟩
  ·cases hb
 ·cases h
theorem view_lst{st:St}{x:Value}{l:List (List UInt8)}{n:Nat}(hn:n=l.length):viewS st (.lst x n (strs l))=some (true,l):=by
 subst hn;simp only[viewS,viewC,strs_len,Nat.mul_one,Nat.beq_refl,strs_isStr,strs_strOf,Bool.and_self]
theorem of_view{st:St}{p:V}{q:List (List UInt8)}(hv:viewS st p=some (true,q))(h1:q.length≤9223372036854775807)(h2:q.all shortS=true):ofOK p st=true∧∀co,ofV co p st=ofC co q:=by
 unfold ofOK ofV;rw[hv];exact⟨by show(true&&(Nat.ble q.length 9223372036854775807&&q.all shortS))=true;rw[Nat.ble_eq_true_of_le h1,h2];rfl,fun _=>rfl⟩
theorem strs_one:∀l:List (List UInt8),(strs l).all V.one=true
 |[]=>rfl
 |_::r=>by
  have:=strs_one r;show(true&&(strs r).all V.one)=true;rw[this];rfl
noncomputable def TXT:Tab:=⟨noT,noL,noLks 9⟩
theorem TXT_ok:TabOk3 Tryd.prog TXT:=⟨noT_ok,noL_ok,noLks_ok 9⟩
theorem tx_round0(a1 a2 a3 a4 a5 a6:Bool)(z:List UInt8)(cs:List V)(k:Nat)(R:Exit→List (Option V)→St→Prop):roundW Tryd.prog TXT 9 10 (rounds 9) 24 250 [6,44,45] [.slice 0 0 k false 0 0,.agg [.bool a2,.str [80,73,80,69,76,73,78,73,78,71],.bool a6,.str z,.bool a1,.str [83,84,65,82,84,84,76,83],.bool a3,.str [82,69,81,85,73,82,69,84,76,83],.bool a4,.str [68,83,78],.bool a5,.str [56,66,73,84,77,73,77,69]],.int .i64 0] [.row cs 9 1] R=
  (
 bif a2 then bif cs.length.beq (k*1)then bif (k+1).ble 9223372036854775807&&((k+1)*16).ble 140737488355328 then R Exit.normal [some (V.slice 3 0 (k+1) false 0
 0),some (V.agg [V.bool a2,V.str [80,73,80,69,76,73,78,73,78,71],V.bool a6,V.str z,V.bool a1,V.str [83,84,65,82,84,84,76,83],V.bool a3,V.str [82,
 69,81,85,73,82,69,84,76,83],V.bool a4,V.str [68,83,78],V.bool a5,V.str [56,66,73,84,77,73,77,69]]),some (V.int IntKind.i64 1)] [Blk.dead,Blk.row
 [V.bool a2,V.str [80,73,80,69,76,73,78,73,78,71]] 66 2,Blk.row [V.str [80,73,80,69,76,73,78,73,78,71]] 9 1,Blk.row (cs++[V.str [80,73,80,69,76,
 73,78,73,78,71]]) 9 1]else False else False else R Exit.normal [some (V.slice 0 0 k false 0 0),some (V.agg [V.bool a2,V.str [80,73,80,69,76,73,78,73,78,
 71],V.bool a6,V.str z,V.bool a1,V.str [83,84,65,82,84,84,76,83],V.bool a3,V.str [82,69,81,85,73,82,69,84,76,83],V.bool a4,V.str [68,83,78],
 V.bool a5,V.str [56,66,73,84,77,73,77,69]]),some (V.int IntKind.i64 1)] [Blk.row cs 9 1,Blk.row [V.bool a2,V.str [80,73,80,69,76,73,78,73,78,71]] 66
 2]):=by kernel_rfl
theorem tx_round1(a1 a2 a3 a4 a5 a6:Bool)(z:List UInt8)(cs:List V)(k:Nat)(R:Exit→List (Option V)→St→Prop):roundW Tryd.prog TXT 9 10 (rounds 9) 24 250 [6,44,45] [.slice 0 0 k false 0 0,.agg [.bool a2,.str [80,73,80,69,76,73,78,73,78,71],.bool a6,.str z,.bool a1,.str [83,84,65,82,84,84,76,83],.bool a3,.str [82,69,81,85,73,82,69,84,76,83],.bool a4,.str [68,83,78],.bool a5,.str [56,66,73,84,77,73,77,69]],.int .i64 1] [.row cs 9 1] R=
  (
 bif a6 then bif cs.length.beq (k*1)then bif (k+1).ble 9223372036854775807&&((k+1)*16).ble 140737488355328 then R Exit.normal [some (V.slice 3 0 (k+1) false 0
 0),some (V.agg [V.bool a2,V.str [80,73,80,69,76,73,78,73,78,71],V.bool a6,V.str z,V.bool a1,V.str [83,84,65,82,84,84,76,83],V.bool a3,V.str [82,
 69,81,85,73,82,69,84,76,83],V.bool a4,V.str [68,83,78],V.bool a5,V.str [56,66,73,84,77,73,77,69]]),some (V.int IntKind.i64 2)] [Blk.dead,Blk.row
 [V.bool a6,V.str z] 66 2,Blk.row [V.str z] 9 1,Blk.row (cs++[V.str z]) 9 1]else False else False else R Exit.normal [some (V.slice 0 0 k false 0 0),some (V.agg
 [V.bool a2,V.str [80,73,80,69,76,73,78,73,78,71],V.bool a6,V.str z,V.bool a1,V.str [83,84,65,82,84,84,76,83],V.bool a3,V.str [82,69,81,85,73,
 82,69,84,76,83],V.bool a4,V.str [68,83,78],V.bool a5,V.str [56,66,73,84,77,73,77,69]]),some (V.int IntKind.i64 2)] [Blk.row cs 9 1,Blk.row [V.bool a6,
 V.str z] 66 2]):=by kernel_rfl
theorem tx_round2(a1 a2 a3 a4 a5 a6:Bool)(z:List UInt8)(cs:List V)(k:Nat)(R:Exit→List (Option V)→St→Prop):roundW Tryd.prog TXT 9 10 (rounds 9) 24 250 [6,44,45] [.slice 0 0 k false 0 0,.agg [.bool a2,.str [80,73,80,69,76,73,78,73,78,71],.bool a6,.str z,.bool a1,.str [83,84,65,82,84,84,76,83],.bool a3,.str [82,69,81,85,73,82,69,84,76,83],.bool a4,.str [68,83,78],.bool a5,.str [56,66,73,84,77,73,77,69]],.int .i64 2] [.row cs 9 1] R=
  (
 bif a1 then bif cs.length.beq (k*1)then bif (k+1).ble 9223372036854775807&&((k+1)*16).ble 140737488355328 then R Exit.normal [some (V.slice 3 0 (k+1) false 0
 0),some (V.agg [V.bool a2,V.str [80,73,80,69,76,73,78,73,78,71],V.bool a6,V.str z,V.bool a1,V.str [83,84,65,82,84,84,76,83],V.bool a3,V.str [82,
 69,81,85,73,82,69,84,76,83],V.bool a4,V.str [68,83,78],V.bool a5,V.str [56,66,73,84,77,73,77,69]]),some (V.int IntKind.i64 3)] [Blk.dead,Blk.row
 [V.bool a1,V.str [83,84,65,82,84,84,76,83]] 66 2,Blk.row [V.str [83,84,65,82,84,84,76,83]] 9 1,Blk.row (cs++[V.str [83,84,65,82,84,84,76,83]]) 9
 1]else False else False else R Exit.normal [some (V.slice 0 0 k false 0 0),some (V.agg [V.bool a2,V.str [80,73,80,69,76,73,78,73,78,71],V.bool a6,V.str z,
 V.bool a1,V.str [83,84,65,82,84,84,76,83],V.bool a3,V.str [82,69,81,85,73,82,69,84,76,83],V.bool a4,V.str [68,83,78],V.bool a5,V.str [56,66,73,
 84,77,73,77,69]]),some (V.int IntKind.i64 3)] [Blk.row cs 9 1,Blk.row [V.bool a1,V.str [83,84,65,82,84,84,76,83]] 66 2]):=by kernel_rfl
theorem tx_round3(a1 a2 a3 a4 a5 a6:Bool)(z:List UInt8)(cs:List V)(k:Nat)(R:Exit→List (Option V)→St→Prop):roundW Tryd.prog TXT 9 10 (rounds 9) 24 250 [6,44,45] [.slice 0 0 k false 0 0,.agg [.bool a2,.str [80,73,80,69,76,73,78,73,78,71],.bool a6,.str z,.bool a1,.str [83,84,65,82,84,84,76,83],.bool a3,.str [82,69,81,85,73,82,69,84,76,83],.bool a4,.str [68,83,78],.bool a5,.str [56,66,73,84,77,73,77,69]],.int .i64 3] [.row cs 9 1] R=
  (
 bif a3 then bif cs.length.beq (k*1)then bif (k+1).ble 9223372036854775807&&((k+1)*16).ble 140737488355328 then R Exit.normal [some (V.slice 3 0 (k+1) false 0
 0),some (V.agg [V.bool a2,V.str [80,73,80,69,76,73,78,73,78,71],V.bool a6,V.str z,V.bool a1,V.str [83,84,65,82,84,84,76,83],V.bool a3,V.str [82,
 69,81,85,73,82,69,84,76,83],V.bool a4,V.str [68,83,78],V.bool a5,V.str [56,66,73,84,77,73,77,69]]),some (V.int IntKind.i64 4)] [Blk.dead,Blk.row
 [V.bool a3,V.str [82,69,81,85,73,82,69,84,76,83]] 66 2,Blk.row [V.str [82,69,81,85,73,82,69,84,76,83]] 9 1,Blk.row (cs++[V.str [82,69,81,85,73,
 82,69,84,76,83]]) 9 1]else False else False else R Exit.normal [some (V.slice 0 0 k false 0 0),some (V.agg [V.bool a2,V.str [80,73,80,69,76,73,78,73,78,
 71],V.bool a6,V.str z,V.bool a1,V.str [83,84,65,82,84,84,76,83],V.bool a3,V.str [82,69,81,85,73,82,69,84,76,83],V.bool a4,V.str [68,83,78],
 V.bool a5,V.str [56,66,73,84,77,73,77,69]]),some (V.int IntKind.i64 4)] [Blk.row cs 9 1,Blk.row [V.bool a3,V.str [82,69,81,85,73,82,69,84,76,83]] 66
 2]):=by kernel_rfl
theorem tx_round4(a1 a2 a3 a4 a5 a6:Bool)(z:List UInt8)(cs:List V)(k:Nat)(R:Exit→List (Option V)→St→Prop):roundW Tryd.prog TXT 9 10 (rounds 9) 24 250 [6,44,45] [.slice 0 0 k false 0 0,.agg [.bool a2,.str [80,73,80,69,76,73,78,73,78,71],.bool a6,.str z,.bool a1,.str [83,84,65,82,84,84,76,83],.bool a3,.str [82,69,81,85,73,82,69,84,76,83],.bool a4,.str [68,83,78],.bool a5,.str [56,66,73,84,77,73,77,69]],.int .i64 4] [.row cs 9 1] R=
  (
 bif a4 then bif cs.length.beq (k*1)then bif (k+1).ble 9223372036854775807&&((k+1)*16).ble 140737488355328 then R Exit.normal [some (V.slice 3 0 (k+1) false 0
 0),some (V.agg [V.bool a2,V.str [80,73,80,69,76,73,78,73,78,71],V.bool a6,V.str z,V.bool a1,V.str [83,84,65,82,84,84,76,83],V.bool a3,V.str [82,
 69,81,85,73,82,69,84,76,83],V.bool a4,V.str [68,83,78],V.bool a5,V.str [56,66,73,84,77,73,77,69]]),some (V.int IntKind.i64 5)] [Blk.dead,Blk.row
 [V.bool a4,V.str [68,83,78]] 66 2,Blk.row [V.str [68,83,78]] 9 1,Blk.row (cs++[V.str [68,83,78]]) 9 1]else False else False else R Exit.normal [some (V.slice
 0 0 k false 0 0),some (V.agg [V.bool a2,V.str [80,73,80,69,76,73,78,73,78,71],V.bool a6,V.str z,V.bool a1,V.str [83,84,65,82,84,84,76,83],V.bool
 a3,V.str [82,69,81,85,73,82,69,84,76,83],V.bool a4,V.str [68,83,78],V.bool a5,V.str [56,66,73,84,77,73,77,69]]),some (V.int IntKind.i64 5)]
 [Blk.row cs 9 1,Blk.row [V.bool a4,V.str [68,83,78]] 66 2]):=by kernel_rfl
theorem tx_round5(a1 a2 a3 a4 a5 a6:Bool)(z:List UInt8)(cs:List V)(k:Nat)(R:Exit→List (Option V)→St→Prop):roundW Tryd.prog TXT 9 10 (rounds 9) 24 250 [6,44,45] [.slice 0 0 k false 0 0,.agg [.bool a2,.str [80,73,80,69,76,73,78,73,78,71],.bool a6,.str z,.bool a1,.str [83,84,65,82,84,84,76,83],.bool a3,.str [82,69,81,85,73,82,69,84,76,83],.bool a4,.str [68,83,78],.bool a5,.str [56,66,73,84,77,73,77,69]],.int .i64 5] [.row cs 9 1] R=
  (
 bif a5 then bif cs.length.beq (k*1)then bif (k+1).ble 9223372036854775807&&((k+1)*16).ble 140737488355328 then R Exit.normal [some (V.slice 3 0 (k+1) false 0
 0),some (V.agg [V.bool a2,V.str [80,73,80,69,76,73,78,73,78,71],V.bool a6,V.str z,V.bool a1,V.str [83,84,65,82,84,84,76,83],V.bool a3,V.str [82,
 69,81,85,73,82,69,84,76,83],V.bool a4,V.str [68,83,78],V.bool a5,V.str [56,66,73,84,77,73,77,69]]),some (V.int IntKind.i64 6)] [Blk.dead,Blk.row
 [V.bool a5,V.str [56,66,73,84,77,73,77,69]] 66 2,Blk.row [V.str [56,66,73,84,77,73,77,69]] 9 1,Blk.row (cs++[V.str [56,66,73,84,77,73,77,69]]) 9
 1]else False else False else R Exit.normal [some (V.slice 0 0 k false 0 0),some (V.agg [V.bool a2,V.str [80,73,80,69,76,73,78,73,78,71],V.bool a6,V.str z,
 V.bool a1,V.str [83,84,65,82,84,84,76,83],V.bool a3,V.str [82,69,81,85,73,82,69,84,76,83],V.bool a4,V.str [68,83,78],V.bool a5,V.str [56,66,73,
 84,77,73,77,69]]),some (V.int IntKind.i64 6)] [Blk.row cs 9 1,Blk.row [V.bool a5,V.str [56,66,73,84,77,73,77,69]] 66 2]):=by kernel_rfl
theorem tx_round6(a1 a2 a3 a4 a5 a6:Bool)(z:List UInt8)(cs:List V)(k:Nat)(R:Exit→List (Option V)→St→Prop):roundW Tryd.prog TXT 9 10 (rounds 9) 24 250 [6,44,45] [.slice 0 0 k false 0 0,.agg [.bool a2,.str [80,73,80,69,76,73,78,73,78,71],.bool a6,.str z,.bool a1,.str [83,84,65,82,84,84,76,83],.bool a3,.str [82,69,81,85,73,82,69,84,76,83],.bool a4,.str [68,83,78],.bool a5,.str [56,66,73,84,77,73,77,69]],.int .i64 6] [.row cs 9 1] R=
  (
 R (Exit.exit 0) [some (V.slice 0 0 k false 0 0),some (V.agg [V.bool a2,V.str [80,73,80,69,76,73,78,73,78,71],V.bool a6,V.str z,V.bool a1,V.str [83,84,65,
 82,84,84,76,83],V.bool a3,V.str [82,69,81,85,73,82,69,84,76,83],V.bool a4,V.str [68,83,78],V.bool a5,V.str [56,66,73,84,77,73,77,69]]),some
 (V.int IntKind.i64 6)] [Blk.row cs 9 1]):=by kernel_rfl
def txA(a1 a2 a3 a4 a5 a6:Bool)(z:List UInt8):V:=.agg [.bool a2,.str [80,73,80,69,76,73,78,73,78,71],.bool a6,.str z,.bool a1,.str [83,84,65,82,84,84,76,83],.bool a3,.str [82,69,81,85,73,82,69,84,76,83],.bool a4,.str [68,83,78],.bool a5,.str [56,66,73,84,77,73,77,69]]
structure TX where
 a1:Bool
 a2:Bool
 a3:Bool
 a4:Bool
 a5:Bool
 a6:Bool
 z:List UInt8
 cs:List V
 k:Nat
 i:Nat
def txV(x:TX):List V:=[.slice 0 0 x.k false 0 0,txA x.a1 x.a2 x.a3 x.a4 x.a5 x.a6 x.z,.int .i64 (x.i:Int)]
def txJ(x:TX):St:=[.row x.cs 9 1]
def txPre(x:TX):Bool:=okS x.k x.cs&&(Nat.ble x.i 6&&Nat.ble (x.k+6) (100+x.i))
def txMu(x:TX):Nat:=6-x.i
def txDec:List (Option V)→St→Option TX
 |[some (.slice b 0 k false 0 0),some (.agg [.bool a2,_,.bool a6,.str z,.bool a1,_,.bool a3,_,.bool a4,_,.bool a5,_]),some (.int .i64 0)],st=>match st[b]? with
  |some (.row cs _ _)=>some ⟨a1,a2,a3,a4,a5,a6,z,cs,k,0⟩
  |_=>none
 |_,_=>none
def txP(a1 a2 a3 a4 a5 a6:Bool)(z:List UInt8):List (List (List UInt8)):=[bif a2 then[wPI]else[],bif a6 then[z]else[],bif a1 then[wST]else[],bif a3 then[wRQ]else[],bif a4 then[wDS]else[],bif a5 then[wEB]else[]]
def txR(a1 a2 a3 a4 a5 a6:Bool)(z:List UInt8)(i:Nat):List (List UInt8):=((txP a1 a2 a3 a4 a5 a6 z).drop i).flatten
def txF(a1 a2 a3 a4 a5 a6:Bool)(z:List UInt8)(cs:List V)(i:Nat):List V:=match a1 with
 |true=>cs++strs (txR true a2 a3 a4 a5 a6 z i)
 |false=>cs++strs (txR false a2 a3 a4 a5 a6 z i)
theorem txF_eq(a1 a2 a3 a4 a5 a6:Bool)(z:List UInt8)(cs:List V)(i:Nat):txF a1 a2 a3 a4 a5 a6 z cs i=cs++strs (txR a1 a2 a3 a4 a5 a6 z i):=by cases a1<;>rfl
def txN(a1 a2 a3 a4 a5 a6:Bool)(z:List UInt8)(k i:Nat):Nat:=k+(txR a1 a2 a3 a4 a5 a6 z i).length
def txOutG(k:Nat)(v:V)(cs:List V)(K:Exit→List V→St→Prop):Prop:=K (.exit 0) [.slice 0 0 k false 0 0,v,.int .i64 6] [.row cs 9 1]
def txOut:Asks TX:=fun x K=>txOutG (txN x.a1 x.a2 x.a3 x.a4 x.a5 x.a6 x.z x.k x.i) (txA x.a1 x.a2 x.a3 x.a4 x.a5 x.a6 x.z) (txF x.a1 x.a2 x.a3 x.a4 x.a5 x.a6 x.z x.cs x.i) K
theorem tx_fits(a1 a2 a3 a4 a5 a6:Bool)(z:List UInt8){cs:List V}(hf:flatL cs=true)(k:Nat)(i:Int)(b:Nat)(st:St)(hb:st[b]?=some (.row cs 9 1)):Fits 0 [.slice 0 0 k false 0 0,txA a1 a2 a3 a4 a5 a6 z,.int .i64 i] [.row cs 9 1] [some (.slice b 0 k false 0 0),some (txA a1 a2 a3 a4 a5 a6 z),some (.int .i64 i)] st:=
 ⟨[b],[.slice b 0 k false 0 0,txA a1 a2 a3 a4 a5 a6 z,.int .i64 i],rfl,rfl,FitsM.of ⟨fb hf hb,trivial⟩,by simp,fun i hi=>by omega⟩
theorem strs_app:∀l e:List (List UInt8),strs l++strs e=strs (l++e)
 |[],_=>rfl
 |_::r,e=>congrArg _ (strs_app r e)
theorem tx_roundOk(x:TX)(hx:txPre x=true):roundW Tryd.prog TXT 9 10 (rounds 9) 24 250 [6,44,45] (txV x) (txJ x) (RoundOkA 0 txPre txV txJ txMu txOut x):=by
 obtain⟨a1,a2,a3,a4,a5,a6,z,cs,k,i⟩:=x;unfold txPre at hx;simp only[Bool.and_eq_true]at hx;have hx1:okS k cs=true:=hx.1;have p1:i≤6:=Nat.le_of_ble_eq_true hx.2.1;have p2:k+6≤100+i:=Nat.le_of_ble_eq_true hx.2.2;obtain⟨q,rfl,rfl,p3,p4⟩:=okS_spec hx1;have c1:(strs q).length.beq (q.length*1)=true:=by rw[strs_len,Nat.mul_one];exact Nat.beq_refl _
 have c2:((q.length+1).ble 9223372036854775807&&((q.length+1)*16).ble 140737488355328)=true:=by rw[Nat.ble_eq_true_of_le (by omega),Nat.ble_eq_true_of_le (by omega)];rfl
 have more:∀(j:Nat) (w:List UInt8),i=j→j<6→txR a1 a2 a3 a4 a5 a6 z j=[w]++txR a1 a2 a3 a4 a5 a6 z (j+1)→∀(b:Nat) (st:St),st[b]?=some (.row (strs q++[.str w]) 9 1)→RoundOkA 0 txPre txV txJ txMu txOut ⟨a1,a2,a3,a4,a5,a6,z,strs q,q.length,i⟩ .normal [some (.slice b 0 (q.length+1) false 0 0),some (txA a1 a2 a3 a4 a5 a6 z),some (.int .i64 ((j+1:Nat):Int))] st:=fun j w hi hj hr b st hb=>by
  subst hi;have e:strs q++[.str w]=strs (q++[w]):=(strs_app q [w]).trans rfl;rw[e]at hb;have el:q.length+1=(q++[w]).length:=by rw[List.length_append];rfl
  refine⟨⟨a1,a2,a3,a4,a5,a6,z,strs (q++[w]),q.length+1,i+1⟩,?_,tx_fits a1 a2 a3 a4 a5 a6 z (strs_flat _) _ _ b st hb,by simp only[txMu];omega,fun K hK=>?_⟩
  ·unfold txPre;simp only[Bool.and_eq_true];refine⟨?_,Nat.ble_eq_true_of_le (show i+1≤6 by omega),Nat.ble_eq_true_of_le (show q.length+1+6≤100+(i+1) by omega)⟩;rw[el];exact okS_mk (by rw[←el];omega)
  ·have hK:txOutG (txN a1 a2 a3 a4 a5 a6 z q.length i) (txA a1 a2 a3 a4 a5 a6 z) (txF a1 a2 a3 a4 a5 a6 z (strs q) i) K:=hK;have e1:txN a1 a2 a3 a4 a5 a6 z q.length i=txN a1 a2 a3 a4 a5 a6 z (q.length+1) (i+1):=by unfold txN;rw[hr,List.length_append,List.length_singleton];omega
   have e2:txF a1 a2 a3 a4 a5 a6 z (strs q) i=txF a1 a2 a3 a4 a5 a6 z (strs (q++[w])) (i+1):=by rw[txF_eq,txF_eq,hr,strs_app,strs_app,List.append_assoc]
   rw[e1,e2]at hK;exact hK
 have same:∀j:Nat,i=j→j<6→txR a1 a2 a3 a4 a5 a6 z j=txR a1 a2 a3 a4 a5 a6 z (j+1)→∀st:St,st[0]?=some (.row (strs q) 9 1)→RoundOkA 0 txPre txV txJ txMu txOut ⟨a1,a2,a3,a4,a5,a6,z,strs q,q.length,i⟩ .normal [some (.slice 0 0 q.length false 0 0),some (txA a1 a2 a3 a4 a5 a6 z),some (.int .i64 ((j+1:Nat):Int))] st:=fun j hi hj hr st hb=>by
  subst hi;refine⟨⟨a1,a2,a3,a4,a5,a6,z,strs q,q.length,i+1⟩,?_,tx_fits a1 a2 a3 a4 a5 a6 z (strs_flat _) _ _ 0 st hb,by simp only[txMu];omega,fun K hK=>?_⟩
  ·unfold txPre;simp only[Bool.and_eq_true];exact⟨hx1,Nat.ble_eq_true_of_le (show i+1≤6 by omega),Nat.ble_eq_true_of_le (show q.length+6≤100+(i+1) by omega)⟩
  ·have hK:txOutG (txN a1 a2 a3 a4 a5 a6 z q.length i) (txA a1 a2 a3 a4 a5 a6 z) (txF a1 a2 a3 a4 a5 a6 z (strs q) i) K:=hK;unfold txN at hK;rw[txF_eq,hr,←txF_eq]at hK;exact hK
 rcases(show i=0∨i=1∨i=2∨i=3∨i=4∨i=5∨i=6 by omega)with rfl|rfl|rfl|rfl|rfl|rfl|rfl
 ·show roundW Tryd.prog TXT 9 10 (rounds 9) 24 250 [6,44,45] [.slice 0 0 q.length false 0 0,.agg [.bool a2,.str [80,73,80,69,76,73,78,73,78,71],.bool a6,.str z,.bool a1,.str [83,84,65,82,84,84,76,83],.bool a3,.str [82,69,81,85,73,82,69,84,76,83],.bool a4,.str [68,83,78],.bool a5,.str [56,66,73,84,77,73,77,69]],.int .i64 0] [.row (strs q) 9 1] _;rw[tx_round0];refine bif_intro (fun h=>must_intro c1 (must_intro c2 (more 0 wPI rfl (by omega) (by rw[h];rfl) 3 _ rfl))) (fun h=>same 0 rfl (by omega) (by rw[h];rfl) _ rfl)
 ·show roundW Tryd.prog TXT 9 10 (rounds 9) 24 250 [6,44,45] [.slice 0 0 q.length false 0 0,.agg [.bool a2,.str [80,73,80,69,76,73,78,73,78,71],.bool a6,.str z,.bool a1,.str [83,84,65,82,84,84,76,83],.bool a3,.str [82,69,81,85,73,82,69,84,76,83],.bool a4,.str [68,83,78],.bool a5,.str [56,66,73,84,77,73,77,69]],.int .i64 1] [.row (strs q) 9 1] _;rw[tx_round1];refine bif_intro (fun h=>must_intro c1 (must_intro c2 (more 1 z rfl (by omega) (by rw[h];rfl) 3 _ rfl))) (fun h=>same 1 rfl (by omega) (by rw[h];rfl) _ rfl)
 ·show roundW Tryd.prog TXT 9 10 (rounds 9) 24 250 [6,44,45] [.slice 0 0 q.length false 0 0,.agg [.bool a2,.str [80,73,80,69,76,73,78,73,78,71],.bool a6,.str z,.bool a1,.str [83,84,65,82,84,84,76,83],.bool a3,.str [82,69,81,85,73,82,69,84,76,83],.bool a4,.str [68,83,78],.bool a5,.str [56,66,73,84,77,73,77,69]],.int .i64 2] [.row (strs q) 9 1] _;rw[tx_round2];refine bif_intro (fun h=>must_intro c1 (must_intro c2 (more 2 wST rfl (by omega) (by rw[h];rfl) 3 _ rfl))) (fun h=>same 2 rfl (by omega) (by rw[h];rfl) _ rfl)
 ·show roundW Tryd.prog TXT 9 10 (rounds 9) 24 250 [6,44,45] [.slice 0 0 q.length false 0 0,.agg [.bool a2,.str [80,73,80,69,76,73,78,73,78,71],.bool a6,.str z,.bool a1,.str [83,84,65,82,84,84,76,83],.bool a3,.str [82,69,81,85,73,82,69,84,76,83],.bool a4,.str [68,83,78],.bool a5,.str [56,66,73,84,77,73,77,69]],.int .i64 3] [.row (strs q) 9 1] _;rw[tx_round3];refine bif_intro (fun h=>must_intro c1 (must_intro c2 (more 3 wRQ rfl (by omega) (by rw[h];rfl) 3 _ rfl))) (fun h=>same 3 rfl (by omega) (by rw[h];rfl) _ rfl)
 ·show roundW Tryd.prog TXT 9 10 (rounds 9) 24 250 [6,44,45] [.slice 0 0 q.length false 0 0,.agg [.bool a2,.str [80,73,80,69,76,73,78,73,78,71],.bool a6,.str z,.bool a1,.str [83,84,65,82,84,84,76,83],.bool a3,.str [82,69,81,85,73,82,69,84,76,83],.bool a4,.str [68,83,78],.bool a5,.str [56,66,73,84,77,73,77,69]],.int .i64 4] [.row (strs q) 9 1] _;rw[tx_round4];refine bif_intro (fun h=>must_intro c1 (must_intro c2 (more 4 wDS rfl (by omega) (by rw[h];rfl) 3 _ rfl))) (fun h=>same 4 rfl (by omega) (by rw[h];rfl) _ rfl)
 ·show roundW Tryd.prog TXT 9 10 (rounds 9) 24 250 [6,44,45] [.slice 0 0 q.length false 0 0,.agg [.bool a2,.str [80,73,80,69,76,73,78,73,78,71],.bool a6,.str z,.bool a1,.str [83,84,65,82,84,84,76,83],.bool a3,.str [82,69,81,85,73,82,69,84,76,83],.bool a4,.str [68,83,78],.bool a5,.str [56,66,73,84,77,73,77,69]],.int .i64 5] [.row (strs q) 9 1] _;rw[tx_round5];refine bif_intro (fun h=>must_intro c1 (must_intro c2 (more 5 wEB rfl (by omega) (by rw[h];rfl) 3 _ rfl))) (fun h=>same 5 rfl (by omega) (by rw[h];rfl) _ rfl)
 ·show roundW Tryd.prog TXT 9 10 (rounds 9) 24 250 [6,44,45] [.slice 0 0 q.length false 0 0,.agg [.bool a2,.str [80,73,80,69,76,73,78,73,78,71],.bool a6,.str z,.bool a1,.str [83,84,65,82,84,84,76,83],.bool a3,.str [82,69,81,85,73,82,69,84,76,83],.bool a4,.str [68,83,78],.bool a5,.str [56,66,73,84,77,73,77,69]],.int .i64 6] [.row (strs q) 9 1] _;rw[tx_round6];refine⟨_,_,fun K hK=>?_,tx_fits a1 a2 a3 a4 a5 a6 z (strs_flat q) q.length 6 0 _ rfl⟩;have hK:txOutG (q.length+0) (txA a1 a2 a3 a4 a5 a6 z) (txF a1 a2 a3 a4 a5 a6 z (strs q) 6) K:=hK;rw[txF_eq,show strs (txR a1 a2 a3 a4 a5 a6 z 6)=[]from rfl,List.append_nil]at hK;exact hK
noncomputable def lkTX:Nat→Trans→Trans:=withLoop 250 (loopA 0 (szOf Tryd.prog 24) [6,44,45] txDec txPre txV txJ txOut) (rounds 9)
theorem lkTX_ok:FnLoopsW Tryd.prog 0 lkTX 24:=by
 unfold lkTX;exact fnLoopW (fnRoundsW 9 0 24) (by kernel_rfl) fun f st Q h=>loopA_ok (P:=Tryd.prog) (T:=TXT) (k:=0) (lim:=9) (n:=10) (g:=24) (p0:=250) (lk:=rounds 9) mixed TXT_ok (roundsW 9 _ _) txMu tx_roundOk h
def itoaTG(IT:Int→List UInt8):List V→Option (List (Bool×(V×St)))
 |[.int .i64 n]=>some [(isI64 n,(.str (IT n),[]))]
 |_=>none
noncomputable def TXU(IT:Int→List UInt8):Tab:=⟨addT noT 45 (itoaTG IT),noL,addLk (noLks 9) 24 0 lkTX⟩
theorem TXU_ok:TabOk3 Tryd.prog (TXU Lib.itoa):=⟨addT_ok noT_ok itoa_ok,noL_ok,addLk_ok (noLks_ok 9) lkTX_ok⟩
theorem txt_tree(IT:Int→List UInt8)(h:List UInt8)(a1 a2 a3 a4 a5 a6:Bool)(mo:Int)(R:V→St→Prop):runM Tryd.prog (TXU IT) 9 10 24 [.str h,.agg [.bool a1,.bool a2,.bool a3,.bool a4,.bool a5,.bool a6,.int .i64 mo]] (fun v st=>R v (vis v st))=
  (
 bif decide (mo≥1)then bif decide (mo≤1099511627776)then bif isI64 mo then bif (1+(IT mo).length).ble 9223372036854775807 then bif (4+([32]++IT mo).length).ble
 9223372036854775807 then Fits 0 [V.slice 0 0 1 false 0 0,V.agg [V.bool a2,V.str [80,73,80,69,76,73,78,73,78,71],V.bool a6,V.str ([83,73,90,69]++([32]++
 IT mo)),V.bool a1,V.str [83,84,65,82,84,84,76,83],V.bool a3,V.str [82,69,81,85,73,82,69,84,76,83],V.bool a4,V.str [68,83,78],V.bool a5,V.str
 [56,66,73,84,77,73,77,69]],V.int IntKind.i64 0] [Blk.row [V.str h] 9 1] [some (V.slice 1 0 1 false 0 0),some (V.agg [V.bool a2,V.str [80,73,80,69,76,73,
 78,73,78,71],V.bool a6,V.str ([83,73,90,69]++([32]++IT mo)),V.bool a1,V.str [83,84,65,82,84,84,76,83],V.bool a3,V.str [82,69,81,85,73,82,69,
 84,76,83],V.bool a4,V.str [68,83,78],V.bool a5,V.str [56,66,73,84,77,73,77,69]]),some (V.int IntKind.i64 0)] [Blk.row [V.bool a1,V.bool a2,V.bool a3,
 V.bool a4,V.bool a5,V.bool a6,V.int IntKind.i64 mo] 34 7,Blk.row [V.str h] 9 1]∧R (V.slice 0 0 (txN a1 a2 a3 a4 a5 a6 ([83,73,90,69]++([32]++IT mo)) 1 0)
 false 0 0) [Blk.row (txF a1 a2 a3 a4 a5 a6 ([83,73,90,69]++([32]++IT mo)) [V.str h] 0) 9 1]else False else False else False else Fits 0 [V.slice 0 0 1 false 0 0,
 V.agg [V.bool a2,V.str [80,73,80,69,76,73,78,73,78,71],V.bool a6,V.str [83,73,90,69],V.bool a1,V.str [83,84,65,82,84,84,76,83],V.bool a3,V.str
 [82,69,81,85,73,82,69,84,76,83],V.bool a4,V.str [68,83,78],V.bool a5,V.str [56,66,73,84,77,73,77,69]],V.int IntKind.i64 0] [Blk.row [V.str h] 9 1]
 [some (V.slice 1 0 1 false 0 0),some (V.agg [V.bool a2,V.str [80,73,80,69,76,73,78,73,78,71],V.bool a6,V.str [83,73,90,69],V.bool a1,V.str [83,84,65,
 82,84,84,76,83],V.bool a3,V.str [82,69,81,85,73,82,69,84,76,83],V.bool a4,V.str [68,83,78],V.bool a5,V.str [56,66,73,84,77,73,77,69]]),some
 (V.int IntKind.i64 0)] [Blk.row [V.bool a1,V.bool a2,V.bool a3,V.bool a4,V.bool a5,V.bool a6,V.int IntKind.i64 mo] 34 7,Blk.row [V.str h] 9 1]∧R (V.slice 0 0
 (txN a1 a2 a3 a4 a5 a6 [83,73,90,69] 1 0) false 0 0) [Blk.row (txF a1 a2 a3 a4 a5 a6 [83,73,90,69] [V.str h] 0) 9 1]else Fits 0 [V.slice 0 0 1 false 0 0,V.agg
 [V.bool a2,V.str [80,73,80,69,76,73,78,73,78,71],V.bool a6,V.str [83,73,90,69],V.bool a1,V.str [83,84,65,82,84,84,76,83],V.bool a3,V.str [82,
 69,81,85,73,82,69,84,76,83],V.bool a4,V.str [68,83,78],V.bool a5,V.str [56,66,73,84,77,73,77,69]],V.int IntKind.i64 0] [Blk.row [V.str h] 9 1] [some
 (V.slice 1 0 1 false 0 0),some (V.agg [V.bool a2,V.str [80,73,80,69,76,73,78,73,78,71],V.bool a6,V.str [83,73,90,69],V.bool a1,V.str [83,84,65,82,
 84,84,76,83],V.bool a3,V.str [82,69,81,85,73,82,69,84,76,83],V.bool a4,V.str [68,83,78],V.bool a5,V.str [56,66,73,84,77,73,77,69]]),some
 (V.int IntKind.i64 0)] [Blk.row [V.bool a1,V.bool a2,V.bool a3,V.bool a4,V.bool a5,V.bool a6,V.int IntKind.i64 mo] 34 7,Blk.row [V.str h] 9 1]∧R (V.slice 0 0
 (txN a1 a2 a3 a4 a5 a6 [83,73,90,69] 1 0) false 0 0) [Blk.row (txF a1 a2 a3 a4 a5 a6 [83,73,90,69] [V.str h] 0) 9 1]):=by kernel_rfl
theorem txR_cap(a1 a2 a3 a4 a5 a6:Bool)(mo:Int):txR a1 a2 a3 a4 a5 a6 (sizeT mo) 0=capW ⟨a1,a2,a3,a4,a5,a6,mo⟩:=by
 show _++(_++(_++(_++(_++(_++[])))))=_;rw[List.append_nil];rfl
def textsT:List V→Option (List (Bool×(V×St)))
 |[.str h,.agg [.bool a1,.bool a2,.bool a3,.bool a4,.bool a5,.bool a6,.int .i64 mo]]=>some [(isI64 mo,(.slice 0 0 (h::capW ⟨a1,a2,a3,a4,a5,a6,mo⟩).length false 0 0,[.row (strs (h::capW ⟨a1,a2,a3,a4,a5,a6,mo⟩)) 9 1]))]
 |_=>none
def txO(h:List UInt8)(c:CP):V→St→Prop:=fun v st=>Fits 0 [V.slice 0 0 (h::capW c).length false 0 0] [.row (strs (h::capW c)) 9 1] [some v] st
theorem texts_ok(args:List V)(L:List (Bool×(V×St)))(o:V×St)(h:textsT args=some L)(ho:pickO L=some o):FnSat Tryd.prog 24 args [] (Is o):=by
 unfold textsT at h;split at h
 ·rename_i h a1 a2 a3 a4 a5 a6 mo;cases h;obtain⟨hk,rfl⟩:=pickO_one ho;refine visM_ok (v:=.slice 0 0 (h::capW ⟨a1,a2,a3,a4,a5,a6,mo⟩).length false 0 0) (s:=[.row (strs (h::capW ⟨a1,a2,a3,a4,a5,a6,mo⟩)) 9 1]) (lim:=9) (n:=10) mixed TXU_ok ?_;show runM Tryd.prog (TXU Lib.itoa) 9 10 24 [.str h,.agg [.bool a1,.bool a2,.bool a3,.bool a4,.bool a5,.bool a6,.int .i64 mo]] (fun v st=>txO h ⟨a1,a2,a3,a4,a5,a6,mo⟩ v (vis v st));rw[txt_tree Lib.itoa h a1 a2 a3 a4 a5 a6 mo (txO h ⟨a1,a2,a3,a4,a5,a6,mo⟩)];have last:∀z,z=sizeT mo→txO h ⟨a1,a2,a3,a4,a5,a6,mo⟩ (V.slice 0 0 (txN a1 a2 a3 a4 a5 a6 z 1 0) false 0 0) [Blk.row (txF a1 a2 a3 a4 a5 a6 z [V.str h] 0) 9 1]:=fun z hz=>by
   subst hz;have e1:txN a1 a2 a3 a4 a5 a6 (sizeT mo) 1 0=(h::capW ⟨a1,a2,a3,a4,a5,a6,mo⟩).length:=by unfold txN;rw[txR_cap,List.length_cons];omega
   have e2:txF a1 a2 a3 a4 a5 a6 (sizeT mo) [V.str h] 0=strs (h::capW ⟨a1,a2,a3,a4,a5,a6,mo⟩):=by rw[txF_eq,txR_cap];rfl
   rw[e1,e2];exact⟨[0],[V.slice 0 0 (h::capW ⟨a1,a2,a3,a4,a5,a6,mo⟩).length false 0 0],rfl,rfl,FitsM.of ⟨fb (strs_flat _) rfl,trivial⟩,by simp,fun i hi=>by omega⟩
  have hl:=okL_le (okL_itoa hk);refine bif_intro (fun h1=>bif_intro (fun h2=>?_) (fun h2=>?_)) (fun h1=>?_)
  ·refine must_intro hk (must_intro (Nat.ble_eq_true_of_le (by omega)) (must_intro (Nat.ble_eq_true_of_le (by rw[List.length_append,List.length_singleton];omega)) ⟨tx_fits a1 a2 a3 a4 a5 a6 _ rfl 1 0 1 _ rfl,last _ ?_⟩));unfold sizeT;rw[show decide (1≤mo)=true from h1,h2];rfl
  ·refine⟨tx_fits a1 a2 a3 a4 a5 a6 _ rfl 1 0 1 _ rfl,last _ ?_⟩;unfold sizeT;rw[show decide (1≤mo)=true from h1,h2];rfl
  ·refine⟨tx_fits a1 a2 a3 a4 a5 a6 _ rfl 1 0 1 _ rfl,last _ ?_⟩;unfold sizeT;rw[show decide (1≤mo)=false from h1];rfl
 ·cases h
theorem n1_round(s:List UInt8)(most i:Int)(R:Exit→List (Option V)→St→Prop):roundW Tryd.prog T3 9 10 (rounds 9) 66 58 [0,1,4,5,6] [.str s,.int .i64 most,.int .i64 0,.int .i64 0,.int .i64 i] [] R=
  (
 bif decide (i<(↑s.length:Int))then bif decide (0≤i)&&i.toNat.blt s.length then bif decide ((↑(s.getD i.toNat 0).toNat:Int)<48)then R Exit.ret [some (V.str
 s),some (V.int IntKind.i64 most),some (V.int IntKind.i64 0),some (V.int IntKind.i64 4),some (V.int IntKind.i64 i)] []else bif decide (0≤i)&&i.toNat.blt s.length
 then bif decide ((↑(s.getD i.toNat 0).toNat:Int)>57)then R Exit.ret [some (V.str s),some (V.int IntKind.i64 most),some (V.int IntKind.i64 0),some (V.int
 IntKind.i64 4),some (V.int IntKind.i64 i)] []else R Exit.normal [some (V.str s),some (V.int IntKind.i64 most),some (V.int IntKind.i64 0),some (V.int IntKind.i64 0),
 some (V.int IntKind.i64 (IntKind.i64.wrap (i+1)))] []else False else False else R (Exit.exit 0) [some (V.str s),some (V.int IntKind.i64 most),some (V.int IntKind.i64
 0),some (V.int IntKind.i64 0),some (V.int IntKind.i64 i)] []):=by kernel_rfl
theorem n2_round(s:List UInt8)(most n i:Int)(R:Exit→List (Option V)→St→Prop):roundW Tryd.prog T3 9 10 (rounds 9) 66 250 [0,1,4,5,7,8] [.str s,.int .i64 most,.int .i64 0,.int .i64 0,.int .i64 n,.int .i64 i] [] R=
  (
 bif decide (i<(↑s.length:Int))then bif decide (0≤i)&&i.toNat.blt s.length then bif decide (most<IntKind.i64.wrap (IntKind.u8.wrap ((↑(s.getD i.toNat 0).toNat:
 Int)-48)))then R Exit.ret [some (V.str s),some (V.int IntKind.i64 most),some (V.int IntKind.i64 0),some (V.int IntKind.i64 40),some (V.int IntKind.i64 n),some
 (V.int IntKind.i64 i)] []else bif decide (n>IntKind.i64.wrap ((IntKind.i64.wrap (most-IntKind.i64.wrap (IntKind.u8.wrap ((↑(s.getD i.toNat 0).toNat:Int)-
 48)))).tdiv 10))then R Exit.ret [some (V.str s),some (V.int IntKind.i64 most),some (V.int IntKind.i64 0),some (V.int IntKind.i64 40),some (V.int IntKind.i64 n),some
 (V.int IntKind.i64 i)] []else R Exit.normal [some (V.str s),some (V.int IntKind.i64 most),some (V.int IntKind.i64 0),some (V.int IntKind.i64 0),some (V.int
 IntKind.i64 (IntKind.i64.wrap (IntKind.i64.wrap (10*n)+IntKind.i64.wrap (IntKind.u8.wrap ((↑(s.getD i.toNat 0).toNat:Int)-48))))),some (V.int IntKind.i64
 (IntKind.i64.wrap (i+1)))] []else False else R (Exit.exit 2) [some (V.str s),some (V.int IntKind.i64 most),some (V.int IntKind.i64 0),some (V.int IntKind.i64 0),
 some (V.int IntKind.i64 n),some (V.int IntKind.i64 i)] []):=by kernel_rfl
theorem sh_round(n:Int)(s:List UInt8)(u:Int)(R:Exit→List (Option V)→St→Prop):roundW Tryd.prog T3 9 10 (rounds 9) 41 124 [0,2,3,4] [.int .i64 n,.str [],.int .u64 u,.str s] [] R=
  (
 bif decide (u>9)then bif (1+s.length).ble 9223372036854775807 then R Exit.normal [some (V.int IntKind.i64 n),some (V.str []),some (V.int IntKind.u64
 (IntKind.u64.wrap (u.tdiv 10))),some (V.str (List.map Vm.byteOf [V.int IntKind.u8 (IntKind.u8.wrap (IntKind.u64.wrap (48+(IntKind.u64.wrap (u.tdiv 10)).tmod 10)))]++
 s))] [Blk.row [V.int IntKind.u8 (IntKind.u8.wrap (IntKind.u64.wrap (48+(IntKind.u64.wrap (u.tdiv 10)).tmod 10)))] 5 1]else False else R (Exit.exit 0) [some (V.int
 IntKind.i64 n),some (V.str []),some (V.int IntKind.u64 u),some (V.str s)] []):=by kernel_rfl
structure N1 where
 s:List UInt8
 most:Int
 i:Nat
def n1V(x:N1):List V:=[.str x.s,.int .i64 x.most,.int .i64 0,.int .i64 0,.int .i64 (x.i:Int)]
def n1J(_:N1):St:=[]
def n1Pre(x:N1):Bool:=okL x.s&&(Nat.ble x.i x.s.length&&(x.s.take x.i).all isD)
def n1Mu(x:N1):Nat:=x.s.length-x.i
def n1Dec:List (Option V)→St→Option N1
 |[some (.str s),some (.int .i64 most),some (.int .i64 0),some (.int .i64 0),some (.int .i64 0)],[]=>some ⟨s,most,0⟩
 |_,_=>none
def n1OutN(s:List UInt8)(most:Int)(K:Exit→List V→St→Prop):Prop:=
 bif s.all isD then K (.exit 0) [.str s,.int .i64 most,.int .i64 0,.int .i64 0,.int .i64 (s.length:Int)] []else ∀i:Int,K .ret [.str s,.int .i64 most,.int .i64 0,.int .i64 4,.int .i64 i] []
def n1Out:Asks N1:=fun x K=>n1OutN x.s x.most K
theorem flat_fits(k:Nat)(hk:k=0)(vs:List V)(st:St)(h:flatL vs=true):Fits k vs [] (vs.map some) st:=⟨[],vs,rfl,renL_of_flat vs h,FitsM.of trivial,by simp,fun i hi=>by omega⟩
theorem take_succ_getD{s:List UInt8}{i:Nat}(h:i<s.length):s.take (i+1)=s.take i++[s.getD i 0]:=by
 rw[List.getD_eq_getElem?_getD,List.getElem?_eq_getElem h,Option.getD_some,List.take_append_getElem h]
theorem n1_roundOk(x:N1)(hx:n1Pre x=true):roundW Tryd.prog T3 9 10 (rounds 9) 66 58 [0,1,4,5,6] (n1V x) (n1J x) (RoundOkA 0 n1Pre n1V n1J n1Mu n1Out x):=by
 obtain⟨s,most,i⟩:=x;unfold n1Pre at hx;rw[Bool.and_eq_true,Bool.and_eq_true]at hx;have p1:=okL_le hx.1;have p2:i≤s.length:=Nat.le_of_ble_eq_true hx.2.1;have p3:(s.take i).all isD=true:=hx.2.2;simp only at p1;show roundW Tryd.prog T3 9 10 (rounds 9) 66 58 [0,1,4,5,6] [.str s,.int .i64 most,.int .i64 0,.int .i64 0,.int .i64 (i:Int)] [] _;rw[n1_round];simp only[Int.toNat_natCast];have ret:isD (s.getD i 0)=false→i<s.length→RoundOkA 0 n1Pre n1V n1J n1Mu n1Out ⟨s,most,i⟩ .ret [some (.str s),some (.int .i64 most),some (.int .i64 0),some (.int .i64 4),some (.int .i64 (i:Int))] []:=by
  intro h hi;refine⟨[.str s,.int .i64 most,.int .i64 0,.int .i64 4,.int .i64 (i:Int)],[],fun K hK=>?_,flat_fits 0 rfl _ _ rfl⟩;have hK:n1OutN s most K:=hK;have ha:s.all isD=false:=by
   cases ha:s.all isD with
   |false=>rfl
   |true=>
    rw[List.getD_eq_getElem?_getD,List.getElem?_eq_getElem hi,Option.getD_some,List.all_eq_true.1 ha _ (List.getElem_mem hi)]at h;cases h
  unfold n1OutN at hK;rw[ha,cond_false]at hK;exact hK i
 refine bif_intro (fun hb=>?_) (fun hb=>?_)
 ·have hi:i<s.length:=by have:=of_decide_eq_true hb;omega
  have hw:IntKind.i64.wrap ((i:Int)+1)=((i+1:Nat):Int):=by rw[IntWalk.i64_in _ ⟨by omega,by omega⟩];omega
  have hc:(decide ((0:Int)≤(i:Int))&&i.blt s.length)=true:=by rw[Bool.and_eq_true];exact⟨decide_eq_true (by omega),Nat.ble_eq_true_of_le (by omega)⟩
  rw[hw];refine must_intro hc ?_;refine bif_intro (fun h1=>ret ?_ hi) (fun h1=>must_intro hc (bif_intro (fun h2=>ret ?_ hi) (fun h2=>?_)))
  ·have h1:=of_decide_eq_true h1;cases h:isD (s.getD i 0)with
   |false=>rfl
   |true=>have:=(isD_iff _).1 h;omega
  ·have h2:=of_decide_eq_true h2;cases h:isD (s.getD i 0)with
   |false=>rfl
   |true=>have:=(isD_iff _).1 h;omega
  ·have h1:=of_decide_eq_false h1;have h2:=of_decide_eq_false h2;have hd:isD (s.getD i 0)=true:=(isD_iff _).2 ⟨by omega,by omega⟩;refine⟨⟨s,most,i+1⟩,?_,flat_fits 0 rfl _ _ rfl,?_,fun K hK=>hK⟩
   ·unfold n1Pre;rw[Bool.and_eq_true,Bool.and_eq_true];refine⟨decide_eq_true p1,Nat.ble_eq_true_of_le hi,?_⟩;show(s.take (i+1)).all isD=true;rw[take_succ_getD hi,List.all_append,p3,List.all_cons,hd];rfl
   ·simp only[n1Mu];omega
 ·have hi:i=s.length:=by have:=of_decide_eq_false hb;omega
  subst hi;refine⟨[.str s,.int .i64 most,.int .i64 0,.int .i64 0,.int .i64 (s.length:Int)],[],fun K hK=>?_,flat_fits 0 rfl _ _ rfl⟩;have hK:n1OutN s most K:=hK;rw[List.take_length]at p3;unfold n1OutN at hK;rw[p3,cond_true]at hK;exact hK
def n2V(x:N1):List V:=[.str x.s,.int .i64 x.most,.int .i64 0,.int .i64 0,.int .i64 (numF 0 (x.s.take x.i):Int),.int .i64 (x.i:Int)]
def n2Pre(x:N1):Bool:=okDig x.s&&(isI64 x.most&&(Nat.ble x.i x.s.length&&(Nat.beq x.i 0||decide ((numF 0 (x.s.take x.i):Int)≤x.most))))
def n2Dec:List (Option V)→St→Option N1
 |[some (.str s),some (.int .i64 most),some (.int .i64 0),some (.int .i64 0),some (.int .i64 0),some (.int .i64 0)],[]=>some ⟨s,most,0⟩
 |_,_=>none
def n2OutN(s:List UInt8)(most:Int)(K:Exit→List V→St→Prop):Prop:=
 bif decide ((numF 0 s:Int)≤most)then K (.exit 2) [.str s,.int .i64 most,.int .i64 0,.int .i64 0,.int .i64 (numF 0 s:Int),.int .i64 (s.length:Int)] []else ∀n i:Int,K .ret [.str s,.int .i64 most,.int .i64 0,.int .i64 40,.int .i64 n,.int .i64 i] []
def n2Out:Asks N1:=fun x K=>n2OutN x.s x.most K
theorem numF_take_le(s:List UInt8)(i:Nat):numF 0 (s.take i)≤numF 0 s:=by
 have:=numF_le (s.drop i) (numF 0 (s.take i));rw[←numF_append,List.take_append_drop]at this;exact this
theorem numF_take_succ{s:List UInt8}{i:Nat}(h:i<s.length):numF 0 (s.take (i+1))=numF 0 (s.take i)*10+((s.getD i 0).toNat-48):=by
 rw[take_succ_getD h,numF_append,numF_cons,numF_nil];unfold stepD digV;exact Nat.add_left_cancel_iff.2 rfl
theorem n2_roundOk(x:N1)(hx:n2Pre x=true):roundW Tryd.prog T3 9 10 (rounds 9) 66 250 [0,1,4,5,7,8] (n2V x) (n1J x) (RoundOkA 0 n2Pre n2V n1J n1Mu n2Out x):=by
 obtain⟨s,most,i⟩:=x;unfold n2Pre at hx;rw[Bool.and_eq_true,Bool.and_eq_true,Bool.and_eq_true]at hx;have p0:okDig s=true:=hx.1;obtain⟨p1,p2,p3⟩:=okDig_spec p0;have p4:isI64 most=true:=hx.2.1;have p5:i≤s.length:=Nat.le_of_ble_eq_true hx.2.2.1;have p6:i=0∨(numF 0 (s.take i):Int)≤most:=by
  rcases Bool.or_eq_true_iff.1 hx.2.2.2 with h|h
  ·exact .inl (Nat.eq_of_beq_eq_true h)
  ·exact .inr (of_decide_eq_true h)
 have p7:-9223372036854775808≤most∧most≤9223372036854775807:=by
  have p4:=p4;unfold isI64 at p4;rw[Bool.and_eq_true]at p4;exact⟨of_decide_eq_true p4.1,of_decide_eq_true p4.2⟩
 have p8:i=0→numF 0 (s.take i)=0:=fun h=>by subst h;rfl
 have hmono:=numF_take_le s (i+1);show roundW Tryd.prog T3 9 10 (rounds 9) 66 250 [0,1,4,5,7,8] [.str s,.int .i64 most,.int .i64 0,.int .i64 0,.int .i64 (numF 0 (s.take i):Int),.int .i64 (i:Int)] [] _;rw[n2_round];simp only[Int.toNat_natCast];have ret:¬(numF 0 s:Int)≤most→RoundOkA 0 n2Pre n2V n1J n1Mu n2Out ⟨s,most,i⟩ .ret [some (.str s),some (.int .i64 most),some (.int .i64 0),some (.int .i64 40),some (.int .i64 (numF 0 (s.take i):Int)),some (.int .i64 (i:Int))] []:=by
  intro h;refine⟨[.str s,.int .i64 most,.int .i64 0,.int .i64 40,.int .i64 (numF 0 (s.take i):Int),.int .i64 (i:Int)],[],fun K hK=>?_,flat_fits 0 rfl _ _ rfl⟩;have hK:n2OutN s most K:=hK;unfold n2OutN at hK;rw[decide_eq_false h,cond_false]at hK;exact hK _ _
 refine bif_intro (fun hb=>?_) (fun hb=>?_)
 ·have hi:i<s.length:=by have:=of_decide_eq_true hb;omega
  have hstep:=numF_take_succ hi;have hcd:isD (s.getD i 0)=true:=by
   rw[List.getD_eq_getElem?_getD,List.getElem?_eq_getElem hi,Option.getD_some];exact List.all_eq_true.1 p3 _ (List.getElem_mem hi)
  have hcd:=(isD_iff _).1 hcd;have hw:IntKind.i64.wrap ((i:Int)+1)=((i+1:Nat):Int):=by rw[IntWalk.i64_in _ ⟨by omega,by omega⟩];omega
  have hc:(decide ((0:Int)≤(i:Int))&&i.blt s.length)=true:=by rw[Bool.and_eq_true];exact⟨decide_eq_true (by omega),Nat.ble_eq_true_of_le (by omega)⟩
  have hd:IntKind.i64.wrap (IntKind.u8.wrap (((s.getD i 0).toNat:Int)-48))=(((s.getD i 0).toNat-48:Nat):Int):=by
   rw[IntWalk.u8_in _ ⟨by omega,by omega⟩,IntWalk.i64_in _ ⟨by omega,by omega⟩];omega
  simp only[hw,hd];generalize hdd:(s.getD i 0).toNat-48=d at*
  generalize hnn:numF 0 (s.take i)=n at*
  refine must_intro hc ?_;refine bif_intro (fun h1=>ret ?_) (fun h1=>?_)
  ·have h1:=of_decide_eq_true h1;omega
  ·have h1:¬most<(d:Int):=of_decide_eq_false h1;have e1:IntKind.i64.wrap (most-(d:Int))=most-(d:Int):=IntWalk.i64_in _ ⟨by omega,by omega⟩;have e2:IntKind.i64.wrap ((most-(d:Int)).tdiv 10)=(most-(d:Int))/10:=by
    rw[Int.tdiv_eq_ediv_of_nonneg (by omega)];exact IntWalk.i64_in _ ⟨by omega,by omega⟩
   simp only[e1,e2];refine bif_intro (fun h2=>ret ?_) (fun h2=>?_)
   ·have h2:=of_decide_eq_true h2;omega
   ·have h2:¬((n:Int)>(most-(d:Int))/10):=of_decide_eq_false h2;have hle:(numF 0 (s.take (i+1)):Int)≤most:=by omega
    have e3:IntKind.i64.wrap (IntKind.i64.wrap (10*(n:Int))+(d:Int))=(numF 0 (s.take (i+1)):Int):=by
     rw[IntWalk.i64_in (10*(n:Int)) ⟨by omega,by omega⟩,IntWalk.i64_in _ ⟨by omega,by omega⟩];omega
    rw[e3];refine⟨⟨s,most,i+1⟩,?_,flat_fits 0 rfl _ _ rfl,?_,fun K hK=>hK⟩
    ·unfold n2Pre;rw[Bool.and_eq_true,Bool.and_eq_true,Bool.and_eq_true];exact⟨p0,p4,Nat.ble_eq_true_of_le hi,Bool.or_eq_true_iff.2 (.inr (decide_eq_true hle))⟩
    ·simp only[n1Mu];omega
 ·have hi:i=s.length:=by have:=of_decide_eq_false hb;omega
  have hl:0<s.length:=List.length_pos_iff.2 p2;subst hi;rw[List.take_length]at p6 ⊢;have hle:(numF 0 s:Int)≤most:=by omega
  refine⟨[.str s,.int .i64 most,.int .i64 0,.int .i64 0,.int .i64 (numF 0 s:Int),.int .i64 (s.length:Int)],[],fun K hK=>?_,flat_fits 0 rfl _ _ rfl⟩;have hK:n2OutN s most K:=hK;unfold n2OutN at hK;rw[decide_eq_true hle,cond_true]at hK;exact hK
noncomputable def lkNum:Nat→Trans→Trans:=withLoop 58 (loopA 0 (szOf Tryd.prog 66) [0,1,4,5,6] n1Dec n1Pre n1V n1J n1Out) (withLoop 250 (loopA 0 (szOf Tryd.prog 66) [0,1,4,5,7,8] n2Dec n2Pre n2V n1J n2Out) (rounds 9))
theorem lkNum_ok:FnLoopsW Tryd.prog 0 lkNum 66:=by
 unfold lkNum;refine fnLoopW (fnLoopW (fnRoundsW 9 0 66) (by kernel_rfl) fun f st Q h=>?_) (by kernel_rfl) fun f st Q h=>?_
 ·exact loopA_ok (P:=Tryd.prog) (T:=T3) (k:=0) (lim:=9) (n:=10) (g:=66) (p0:=250) (lk:=rounds 9) mixed T3_ok (roundsW 9 _ _) n1Mu n2_roundOk h
 ·exact loopA_ok (P:=Tryd.prog) (T:=T3) (k:=0) (lim:=9) (n:=10) (g:=66) (p0:=58) (lk:=rounds 9) mixed T3_ok (roundsW 9 _ _) n1Mu n1_roundOk h
noncomputable def T5:Tab:=⟨noT,noL,addLk (noLks 9) 66 0 lkNum⟩
theorem T5_ok:TabOk3 Tryd.prog T5:=⟨noT_ok,noL_ok,addLk_ok (noLks_ok 9) lkNum_ok⟩
theorem rnum_tree(s:List UInt8)(most:Int)(R:V→Prop):runW Tryd.prog T5 9 10 66 [.str s,.int .i64 most] R=
  (
 bif s==[]then R (V.tuple [V.int IntKind.i64 0,V.int IntKind.i64 4])else bif decide ((↑s.length:Int)>1)then bif true&&Nat.blt 0 s.length then bif (↑(s.getD 0
 0).toNat:Int)==48 then R (V.tuple [V.int IntKind.i64 0,V.int IntKind.i64 4])else Fits 0 [V.str s,V.int IntKind.i64 most,V.int IntKind.i64 0,V.int IntKind.i64 0,
 V.int IntKind.i64 0] [] [some (V.str s),some (V.int IntKind.i64 most),some (V.int IntKind.i64 0),some (V.int IntKind.i64 0),some (V.int IntKind.i64 0)] []∧bif n1Pre
 {s:=s,most:=most,i:=0}then bif s.all isD then Fits 0 [V.str s,V.int IntKind.i64 most,V.int IntKind.i64 0,V.int IntKind.i64 0,V.int IntKind.i64 0,V.int
 IntKind.i64 0] [] [some (V.str s),some (V.int IntKind.i64 most),some (V.int IntKind.i64 0),some (V.int IntKind.i64 0),some (V.int IntKind.i64 0),some (V.int
 IntKind.i64 0)] []∧bif n2Pre {s:=s,most:=most,i:=0}then bif decide ((↑(numF 0 s):Int)≤most)then R (V.tuple [V.int IntKind.i64 (↑(numF 0 s):Int),V.int
 IntKind.i64 0])else ∀(n i:Int),R (V.tuple [V.int IntKind.i64 0,V.int IntKind.i64 40])else False else ∀(i:Int),R (V.tuple [V.int IntKind.i64 0,V.int
 IntKind.i64 4])else False else False else Fits 0 [V.str s,V.int IntKind.i64 most,V.int IntKind.i64 0,V.int IntKind.i64 0,V.int IntKind.i64 0] [] [some (V.str s),
 some (V.int IntKind.i64 most),some (V.int IntKind.i64 0),some (V.int IntKind.i64 0),some (V.int IntKind.i64 0)] []∧bif n1Pre {s:=s,most:=most,i:=0}then
 bif s.all isD then Fits 0 [V.str s,V.int IntKind.i64 most,V.int IntKind.i64 0,V.int IntKind.i64 0,V.int IntKind.i64 0,V.int IntKind.i64 0] [] [some (V.str s),some
 (V.int IntKind.i64 most),some (V.int IntKind.i64 0),some (V.int IntKind.i64 0),some (V.int IntKind.i64 0),some (V.int IntKind.i64 0)] []∧bif n2Pre {s:=s,most:=most,i:=0}
 then bif decide ((↑(numF 0 s):Int)≤most)then R (V.tuple [V.int IntKind.i64 (↑(numF 0 s):Int),V.int IntKind.i64 0])else ∀(n i:Int),R (V.tuple [V.int
 IntKind.i64 0,V.int IntKind.i64 40])else False else ∀(i:Int),R (V.tuple [V.int IntKind.i64 0,V.int IntKind.i64 4])else False):=by kernel_rfl
structure SH where
 n:Int
 s:List UInt8
 u:Nat
def shV(x:SH):List V:=[.int .i64 x.n,.str [],.int .u64 (x.u:Int),.str x.s]
def shJ(_:SH):St:=[]
def shPre(x:SH):Bool:=Nat.ble x.s.length 25&&(decide ((x.u:Int)≤18446744073709551615)&&decide (x.u<10^(25-x.s.length)))
def shMu(x:SH):Nat:=x.u
def shDec:List (Option V)→St→Option SH
 |[some (.int .i64 n),some (.str []),some (.int .u64 u),some (.str s)],_=>some ⟨n,s,u.toNat⟩
 |_,_=>none
def shOut:Asks SH:=fun x K=>∀u:Int,K (.exit 0) [.int .i64 x.n,.str [],.int .u64 u,.str (showD x.u x.s)] []
theorem sh_roundOk(x:SH)(hx:shPre x=true):roundW Tryd.prog T3 9 10 (rounds 9) 41 124 [0,2,3,4] (shV x) (shJ x) (RoundOkA 0 shPre shV shJ shMu shOut x):=by
 obtain⟨n,s,u⟩:=x;unfold shPre at hx;rw[Bool.and_eq_true,Bool.and_eq_true]at hx;have p1:s.length≤25:=Nat.le_of_ble_eq_true hx.1;have p2:u<10^(25-s.length):=of_decide_eq_true hx.2.2;have p3:(u:Int)≤18446744073709551615:=of_decide_eq_true hx.2.1;show roundW Tryd.prog T3 9 10 (rounds 9) 41 124 [0,2,3,4] [.int .i64 n,.str [],.int .u64 (u:Int),.str s] [] _;rw[sh_round];refine bif_intro (fun hb=>?_) (fun hb=>?_)
 ·have hu:9<u:=by have:=of_decide_eq_true hb;omega
  have hk:2≤25-s.length:=by
   rcases Nat.lt_or_ge (25-s.length) 2 with h|h
   ·have:10^(25-s.length)≤10^1:=Nat.pow_le_pow_right (by omega) (by omega);omega
   ·exact h
  have e1:IntKind.u64.wrap ((u:Int).tdiv 10)=((u/10:Nat):Int):=by rw[IntWalk.u64_quo _ _ ⟨by omega,p3,by omega⟩];omega
  have e2:IntKind.u8.wrap (IntKind.u64.wrap (48+((u/10:Nat):Int).tmod 10))=((48+u/10%10:Nat):Int):=by
   rw[Int.tmod_eq_emod_of_nonneg (by omega),IntWalk.u64_in _ ⟨by omega,by omega⟩,IntWalk.u8_in _ ⟨by omega,by omega⟩];omega
  simp only[e1,e2];refine must_intro (Nat.ble_eq_true_of_le (by omega)) ?_;have e3:List.map Vm.byteOf [V.int IntKind.u8 ((48+u/10%10:Nat):Int)]++s=[UInt8.ofNat (48+u/10%10)]++s:=rfl;rw[e3];refine⟨⟨n,[UInt8.ofNat (48+u/10%10)]++s,u/10⟩,?_,flat_fits 0 rfl _ _ rfl,?_,fun K hK=>?_⟩
  ·have hl:([UInt8.ofNat (48+u/10%10)]++s).length=s.length+1:=by simp
   unfold shPre;simp only[hl];rw[Bool.and_eq_true,Bool.and_eq_true];refine⟨Nat.ble_eq_true_of_le (by omega),decide_eq_true (by omega),decide_eq_true ?_⟩;have e4:10^(25-s.length)=10^(25-(s.length+1))*10:=by rw[←Nat.pow_succ];congr 1;omega
   rw[e4]at p2;omega
  ·simp only[shMu];omega
  ·intro u';have hK:=hK u';rw[←showD_step hu]at hK;exact hK
 ·have hu:u≤9:=by have:=of_decide_eq_false hb;omega
  refine⟨[.int .i64 n,.str [],.int .u64 (u:Int),.str s],[],fun K hK=>?_,flat_fits 0 rfl _ _ rfl⟩;have hK:=hK (u:Int);have e:showD u s=s:=by unfold showD;rw[Nat.ble_eq_true_of_le hu,cond_true]
  simp only[e]at hK;exact hK
noncomputable def lkShow:Nat→Trans→Trans:=withLoop 124 (loopA 0 (szOf Tryd.prog 41) [0,2,3,4] shDec shPre shV shJ shOut) (rounds 9)
theorem lkShow_ok:FnLoopsW Tryd.prog 0 lkShow 41:=by
 unfold lkShow;exact fnLoopW (fnRoundsW 9 0 41) (by kernel_rfl) fun f st Q h=>loopA_ok (P:=Tryd.prog) (T:=T3) (k:=0) (lim:=9) (n:=10) (g:=41) (p0:=124) (lk:=rounds 9) mixed T3_ok (roundsW 9 _ _) shMu sh_roundOk h
noncomputable def T6:Tab:=⟨noT,noL,addLk (noLks 9) 41 0 lkShow⟩
theorem T6_ok:TabOk3 Tryd.prog T6:=⟨noT_ok,noL_ok,addLk_ok (noLks_ok 9) lkShow_ok⟩
theorem rshow_tree(n:Int)(R:V→Prop):runW Tryd.prog T6 9 10 41 [.int .i64 n] R=
  (
 bif decide (n<0)then Fits 0 [V.int IntKind.i64 n,V.str [],V.int IntKind.u64 (↑(IntKind.u64.wrap (0-IntKind.u64.wrap n)).toNat:Int),V.str (List.map Vm.byteOf
 [V.int IntKind.u8 (IntKind.u8.wrap (IntKind.u64.wrap (48+(IntKind.u64.wrap (0-IntKind.u64.wrap n)).tmod 10)))])] [] [some (V.int IntKind.i64 n),some (V.str []),some
 (V.int IntKind.u64 (IntKind.u64.wrap (0-IntKind.u64.wrap n))),some (V.str (List.map Vm.byteOf [V.int IntKind.u8 (IntKind.u8.wrap (IntKind.u64.wrap (48+
 (IntKind.u64.wrap (0-IntKind.u64.wrap n)).tmod 10)))]))] [Blk.row [V.int IntKind.u8 (IntKind.u8.wrap (IntKind.u64.wrap (48+(IntKind.u64.wrap (0-IntKind.u64.wrap
 n)).tmod 10)))] 5 1]∧bif shPre {n:=n,s:=List.map Vm.byteOf [V.int IntKind.u8 (IntKind.u8.wrap (IntKind.u64.wrap (48+(IntKind.u64.wrap (0-IntKind.u64.wrap n)).tmod 10)))],u:=(IntKind.u64.wrap (0-IntKind.u64.wrap n)).toNat}
 then ∀(u:Int),bif decide (n<0)then bif (1+(showD (IntKind.u64.wrap (0-IntKind.u64.wrap n)).toNat (List.map Vm.byteOf [V.int IntKind.u8 (IntKind.u8.wrap
 (IntKind.u64.wrap (48+(IntKind.u64.wrap (0-IntKind.u64.wrap n)).tmod 10)))])).length).ble 9223372036854775807 then R (V.str ([45]++showD (IntKind.u64.wrap (0-
 IntKind.u64.wrap n)).toNat (List.map Vm.byteOf [V.int IntKind.u8 (IntKind.u8.wrap (IntKind.u64.wrap (48+(IntKind.u64.wrap (0-IntKind.u64.wrap n)).tmod 10)))])))else
 False else R (V.str (showD (IntKind.u64.wrap (0-IntKind.u64.wrap n)).toNat (List.map Vm.byteOf [V.int IntKind.u8 (IntKind.u8.wrap (IntKind.u64.wrap (48+
 (IntKind.u64.wrap (0-IntKind.u64.wrap n)).tmod 10)))])))else False else Fits 0 [V.int IntKind.i64 n,V.str [],V.int IntKind.u64 (↑(IntKind.u64.wrap n).toNat:Int),
 V.str (List.map Vm.byteOf [V.int IntKind.u8 (IntKind.u8.wrap (IntKind.u64.wrap (48+(IntKind.u64.wrap n).tmod 10)))])] [] [some (V.int IntKind.i64 n),some (V.str []),
 some (V.int IntKind.u64 (IntKind.u64.wrap n)),some (V.str (List.map Vm.byteOf [V.int IntKind.u8 (IntKind.u8.wrap (IntKind.u64.wrap (48+(IntKind.u64.wrap n).tmod
 10)))]))] [Blk.row [V.int IntKind.u8 (IntKind.u8.wrap (IntKind.u64.wrap (48+(IntKind.u64.wrap n).tmod 10)))] 5 1]∧bif shPre {n:=n,s:=List.map Vm.byteOf [V.int IntKind.u8 (IntKind.u8.wrap (IntKind.u64.wrap (48+(IntKind.u64.wrap n).tmod 10)))],u:=(IntKind.u64.wrap n).toNat}
 then ∀(u:Int),bif decide (n<0)then bif (1+(showD (IntKind.u64.wrap n).toNat (List.map Vm.byteOf [V.int IntKind.u8 (IntKind.u8.wrap (IntKind.u64.wrap (48+
 (IntKind.u64.wrap n).tmod 10)))])).length).ble 9223372036854775807 then R (V.str ([45]++showD (IntKind.u64.wrap n).toNat (List.map Vm.byteOf [V.int IntKind.u8
 (IntKind.u8.wrap (IntKind.u64.wrap (48+(IntKind.u64.wrap n).tmod 10)))])))else False else R (V.str (showD (IntKind.u64.wrap n).toNat (List.map Vm.byteOf [V.int
 IntKind.u8 (IntKind.u8.wrap (IntKind.u64.wrap (48+(IntKind.u64.wrap n).tmod 10)))])))else False):=by kernel_rfl
theorem rnum_ok(args:List V)(l:List (Bool×(V×St)))(o:V×St)(h:numT args=some l)(ho:pickO l=some o):FnSat Tryd.prog 66 args [] (Is o):=by
 unfold numT at h;split at h
 ·rename_i s most;cases h;cases hk:(okL s&&isI64 most)with
  |false=>rw[hk]at ho;cases ho
  |true=>
   rw[hk]at ho;cases ho;rw[Bool.and_eq_true]at hk;refine pureW_of (lim:=9) (n:=10) mixed T5_ok rfl rfl ?_;rw[rnum_tree];refine bif_intro (fun hs=>?_) (fun hs=>?_)
   ·have hs:s=[]:=eq_of_beq hs;rw[hs,(num_none okNum_nil).1,(num_none okNum_nil).2]
   have hne:s≠[]:=fun e=>by rw[e]at hs;cases hs
   refine bif_intro (fun h1=>must_intro ?_ (bif_intro (fun h2=>?_) (fun h2=>?_))) (fun h1=>?_)
   ·rw[Bool.true_and];exact Nat.ble_eq_true_of_le (List.length_pos_iff.2 hne)
   ·have ho:=okNum_zero (of_decide_eq_true h1) (by have:=eq_of_beq h2;omega);rw[(num_none ho).1,(num_none ho).2]
   ·have hz:¬((s.length:Int)>1∧(s.getD 0 0).toNat=48):=fun⟨_,e⟩=>by rw[e]at h2;cases h2
    clear h1 h2;refine⟨flat_fits 0 rfl _ _ rfl,must_intro ?_ ?_⟩
    ·unfold n1Pre;rw[Bool.and_eq_true,Bool.and_eq_true];exact⟨hk.1,Nat.ble_eq_true_of_le (Nat.zero_le _),rfl⟩
    ·refine bif_intro (fun ha=>?_) (fun ha=>fun i=>?_)
     ·have ho:=okNum_in hne hz ha;have hd:okDig s=true:=okDig_in hk.1 hne ha;refine⟨flat_fits 0 rfl _ _ rfl,must_intro ?_ ?_⟩
      ·unfold n2Pre;rw[Bool.and_eq_true,Bool.and_eq_true,Bool.and_eq_true];exact⟨hd,hk.2,Nat.ble_eq_true_of_le (Nat.zero_le _),rfl⟩
      ·refine bif_intro (fun hm=>?_) (fun hm=>fun n i=>?_)
       ·rw[(num_in ho hm).1,(num_in ho hm).2]
       ·rw[(num_out ho hm).1,(num_out ho hm).2]
     ·have ho:=okNum_all ha;rw[(num_none ho).1,(num_none ho).2]
   ·have hz:¬((s.length:Int)>1∧(s.getD 0 0).toNat=48):=fun⟨e,_⟩=>of_decide_eq_false h1 e;clear h1;refine⟨flat_fits 0 rfl _ _ rfl,must_intro ?_ ?_⟩
    ·unfold n1Pre;rw[Bool.and_eq_true,Bool.and_eq_true];exact⟨hk.1,Nat.ble_eq_true_of_le (Nat.zero_le _),rfl⟩
    ·refine bif_intro (fun ha=>?_) (fun ha=>fun i=>?_)
     ·have ho:=okNum_in hne hz ha;have hd:okDig s=true:=okDig_in hk.1 hne ha;refine⟨flat_fits 0 rfl _ _ rfl,must_intro ?_ ?_⟩
      ·unfold n2Pre;rw[Bool.and_eq_true,Bool.and_eq_true,Bool.and_eq_true];exact⟨hd,hk.2,Nat.ble_eq_true_of_le (Nat.zero_le _),rfl⟩
      ·refine bif_intro (fun hm=>?_) (fun hm=>fun n i=>?_)
       ·rw[(num_in ho hm).1,(num_in ho hm).2]
       ·rw[(num_out ho hm).1,(num_out ho hm).2]
     ·have ho:=okNum_all ha;rw[(num_none ho).1,(num_none ho).2]
 ·cases h
theorem show_byte(u:Nat)(h:(u:Int)≤18446744073709551615):IntKind.u8.wrap (IntKind.u64.wrap (48+((u:Nat):Int).tmod 10))=((48+u%10:Nat):Int):=by
 rw[Int.tmod_eq_emod_of_nonneg (by omega),IntWalk.u64_in _ ⟨by omega,by omega⟩,IntWalk.u8_in _ ⟨by omega,by omega⟩];omega
theorem show_bytes(u:Nat):List.map Vm.byteOf [V.int IntKind.u8 ((48+u%10:Nat):Int)]=[UInt8.ofNat (48+u%10)]:=rfl
theorem shPre_in(n:Int)(u:Nat)(h:(u:Int)≤18446744073709551615):shPre ⟨n,[UInt8.ofNat (48+u%10)],u⟩=true:=by
 have e:(10:Nat)^24=1000000000000000000000000:=rfl;unfold shPre;rw[Bool.and_eq_true,Bool.and_eq_true];refine⟨rfl,decide_eq_true h,decide_eq_true ?_⟩;show u<10^24;omega
theorem rshow_ok(args:List V)(l:List (Bool×(V×St)))(o:V×St)(h:itoaF args=some l)(ho:pickO l=some o):FnSat Tryd.prog 41 args [] (Is o):=by
 unfold itoaF at h;split at h
 ·rename_i n;cases h;cases hk:isI64 n with
  |false=>rw[hk]at ho;cases ho
  |true=>
   rw[hk]at ho;cases ho;have hn:=isI64_spec hk;have e10:(10:Nat)^24=1000000000000000000000000:=rfl;refine pureW_of (lim:=9) (n:=10) mixed T6_ok rfl rfl ?_;rw[rshow_tree];refine bif_intro (fun hb=>?_) (fun hb=>?_)
   ·have hlt:n<0:=of_decide_eq_true hb;have e1:IntKind.u64.wrap (0-IntKind.u64.wrap n)=((n.natAbs:Nat):Int):=by rw[IntKind.wrap_u64,IntKind.wrap_u64];omega
    have hu:((n.natAbs:Nat):Int)≤18446744073709551615:=by omega
    have hlen:=dec_len 24 n.natAbs (by omega) (by omega);simp only[e1,show_byte _ hu,Int.toNat_natCast,show_bytes,showD_top];refine⟨flat_fits 0 rfl _ _ rfl,must_intro (shPre_in _ _ hu) (fun u=>bif_intro (fun _=>must_intro (Nat.ble_eq_true_of_le (by omega)) ?_) (fun h=>absurd (of_decide_eq_false h) (by omega)))⟩;unfold Lib.itoa;rw[if_pos hlt];rfl
   ·have hlt:¬n<0:=of_decide_eq_false hb;have e1:IntKind.u64.wrap n=((n.toNat:Nat):Int):=by rw[IntKind.wrap_u64];omega
    have hu:((n.toNat:Nat):Int)≤18446744073709551615:=by omega
    simp only[e1,show_byte _ hu,Int.toNat_natCast,show_bytes,showD_top];refine⟨flat_fits 0 rfl _ _ rfl,must_intro (shPre_in _ _ hu) (fun u=>bif_intro (fun h=>absurd (of_decide_eq_true h) hlt) (fun _=>?_))⟩;unfold Lib.itoa;rw[if_neg hlt]
 ·cases h
noncomputable def RTU(IT:Int→List UInt8):Tab:=⟨addT noT 41 (itoaTG IT),noL,noLks 9⟩
theorem RTU_ok:TabOk3 Tryd.prog (RTU Lib.itoa):=⟨addT_ok noT_ok rshow_ok,noL_ok,noLks_ok 9⟩
theorem rtx_tree(IT:Int→List UInt8)(h:List UInt8)(a1 a2 a3 a4 a5 a6:Bool)(mo:Int)(R:V→St→Prop):runM Tryd.prog (RTU IT) 9 10 25 [.str h,.agg [.bool a1,.bool a2,.bool a3,.bool a4,.bool a5,.bool a6,.int .i64 mo]] (fun v st=>R v (vis v st))=
  (
 bif a2 then bif a6 then bif decide (mo≥1)then bif decide (mo≤1099511627776)then bif isI64 mo then bif (5+(IT mo).length).ble 9223372036854775807 then bif a1 then
 bif a3 then bif a4 then bif a5 then R (V.slice 13 0 7 false 0 0) [Blk.dead,Blk.dead,Blk.dead,Blk.dead,Blk.dead,Blk.dead,Blk.dead,Blk.dead,Blk.dead,Blk.dead,
 Blk.dead,Blk.dead,Blk.dead,Blk.row [V.str h,V.str [80,73,80,69,76,73,78,73,78,71],V.str ([83,73,90,69,32]++IT mo),V.str [83,84,65,82,84,84,76,
 83],V.str [82,69,81,85,73,82,69,84,76,83],V.str [68,83,78],V.str [56,66,73,84,77,73,77,69]] 9 1]else R (V.slice 11 0 6 false 0 0) [Blk.dead,
 Blk.dead,Blk.dead,Blk.dead,Blk.dead,Blk.dead,Blk.dead,Blk.dead,Blk.dead,Blk.dead,Blk.dead,Blk.row [V.str h,V.str [80,73,80,69,76,73,78,73,78,71],
 V.str ([83,73,90,69,32]++IT mo),V.str [83,84,65,82,84,84,76,83],V.str [82,69,81,85,73,82,69,84,76,83],V.str [68,83,78]] 9 1]else bif a5 then R
 (V.slice 11 0 6 false 0 0) [Blk.dead,Blk.dead,Blk.dead,Blk.dead,Blk.dead,Blk.dead,Blk.dead,Blk.dead,Blk.dead,Blk.dead,Blk.dead,Blk.row [V.str h,V.str [80,73,
 80,69,76,73,78,73,78,71],V.str ([83,73,90,69,32]++IT mo),V.str [83,84,65,82,84,84,76,83],V.str [82,69,81,85,73,82,69,84,76,83],V.str [56,
 66,73,84,77,73,77,69]] 9 1]else R (V.slice 9 0 5 false 0 0) [Blk.dead,Blk.dead,Blk.dead,Blk.dead,Blk.dead,Blk.dead,Blk.dead,Blk.dead,Blk.dead,Blk.row
 [V.str h,V.str [80,73,80,69,76,73,78,73,78,71],V.str ([83,73,90,69,32]++IT mo),V.str [83,84,65,82,84,84,76,83],V.str [82,69,81,85,73,82,
 69,84,76,83]] 9 1]else bif a4 then bif a5 then R (V.slice 11 0 6 false 0 0) [Blk.dead,Blk.dead,Blk.dead,Blk.dead,Blk.dead,Blk.dead,Blk.dead,Blk.dead,Blk.dead,
 Blk.dead,Blk.dead,Blk.row [V.str h,V.str [80,73,80,69,76,73,78,73,78,71],V.str ([83,73,90,69,32]++IT mo),V.str [83,84,65,82,84,84,76,83],V.str
 [68,83,78],V.str [56,66,73,84,77,73,77,69]] 9 1]else R (V.slice 9 0 5 false 0 0) [Blk.dead,Blk.dead,Blk.dead,Blk.dead,Blk.dead,Blk.dead,Blk.dead,
 Blk.dead,Blk.dead,Blk.row [V.str h,V.str [80,73,80,69,76,73,78,73,78,71],V.str ([83,73,90,69,32]++IT mo),V.str [83,84,65,82,84,84,76,83],V.str
 [68,83,78]] 9 1]else bif a5 then R (V.slice 9 0 5 false 0 0) [Blk.dead,Blk.dead,Blk.dead,Blk.dead,Blk.dead,Blk.dead,Blk.dead,Blk.dead,Blk.dead,Blk.row [V.str
 h,V.str [80,73,80,69,76,73,78,73,78,71],V.str ([83,73,90,69,32]++IT mo),V.str [83,84,65,82,84,84,76,83],V.str [56,66,73,84,77,73,77,69]]
 9 1]else R (V.slice 7 0 4 false 0 0) [Blk.dead,Blk.dead,Blk.dead,Blk.dead,Blk.dead,Blk.dead,Blk.dead,Blk.row [V.str h,V.str [80,73,80,69,76,73,78,73,78,
 71],V.str ([83,73,90,69,32]++IT mo),V.str [83,84,65,82,84,84,76,83]] 9 1]else bif a3 then bif a4 then bif a5 then R (V.slice 11 0 6 false 0 0) [Blk.dead,
 Blk.dead,Blk.dead,Blk.dead,Blk.dead,Blk.dead,Blk.dead,Blk.dead,Blk.dead,Blk.dead,Blk.dead,Blk.row [V.str h,V.str [80,73,80,69,76,73,78,73,78,71],
 V.str ([83,73,90,69,32]++IT mo),V.str [82,69,81,85,73,82,69,84,76,83],V.str [68,83,78],V.str [56,66,73,84,77,73,77,69]] 9 1]else R (V.slice 9
 0 5 false 0 0) [Blk.dead,Blk.dead,Blk.dead,Blk.dead,Blk.dead,Blk.dead,Blk.dead,Blk.dead,Blk.dead,Blk.row [V.str h,V.str [80,73,80,69,76,73,78,73,78,
 71],V.str ([83,73,90,69,32]++IT mo),V.str [82,69,81,85,73,82,69,84,76,83],V.str [68,83,78]] 9 1]else bif a5 then R (V.slice 9 0 5 false 0 0)
 [Blk.dead,Blk.dead,Blk.dead,Blk.dead,Blk.dead,Blk.dead,Blk.dead,Blk.dead,Blk.dead,Blk.row [V.str h,V.str [80,73,80,69,76,73,78,73,78,71],V.str ([83,
 73,90,69,32]++IT mo),V.str [82,69,81,85,73,82,69,84,76,83],V.str [56,66,73,84,77,73,77,69]] 9 1]else R (V.slice 7 0 4 false 0 0) [Blk.dead,
 Blk.dead,Blk.dead,Blk.dead,Blk.dead,Blk.dead,Blk.dead,Blk.row [V.str h,V.str [80,73,80,69,76,73,78,73,78,71],V.str ([83,73,90,69,32]++IT mo),V.str
 [82,69,81,85,73,82,69,84,76,83]] 9 1]else bif a4 then bif a5 then R (V.slice 9 0 5 false 0 0) [Blk.dead,Blk.dead,Blk.dead,Blk.dead,Blk.dead,Blk.dead,
 Blk.dead,Blk.dead,Blk.dead,Blk.row [V.str h,V.str [80,73,80,69,76,73,78,73,78,71],V.str ([83,73,90,69,32]++IT mo),V.str [68,83,78],V.str [56,66,
 73,84,77,73,77,69]] 9 1]else R (V.slice 7 0 4 false 0 0) [Blk.dead,Blk.dead,Blk.dead,Blk.dead,Blk.dead,Blk.dead,Blk.dead,Blk.row [V.str h,V.str [80,73,80,
 69,76,73,78,73,78,71],V.str ([83,73,90,69,32]++IT mo),V.str [68,83,78]] 9 1]else bif a5 then R (V.slice 7 0 4 false 0 0) [Blk.dead,Blk.dead,Blk.dead,
 Blk.dead,Blk.dead,Blk.dead,Blk.dead,Blk.row [V.str h,V.str [80,73,80,69,76,73,78,73,78,71],V.str ([83,73,90,69,32]++IT mo),V.str [56,66,73,84,
 77,73,77,69]] 9 1]else R (V.slice 5 0 3 false 0 0) [Blk.dead,Blk.dead,Blk.dead,Blk.dead,Blk.dead,Blk.row [V.str h,V.str [80,73,80,69,76,73,78,73,78,
 71],V.str ([83,73,90,69,32]++IT mo)] 9 1]else False else False else bif a6 then bif a1 then bif a3 then bif a4 then bif a5 then R (V.slice 13 0 7 false 0 0)
 [Blk.dead,Blk.dead,Blk.dead,Blk.dead,Blk.dead,Blk.dead,Blk.dead,Blk.dead,Blk.dead,Blk.dead,Blk.dead,Blk.dead,Blk.dead,Blk.row [V.str h,V.str [80,73,80,
 69,76,73,78,73,78,71],V.str [83,73,90,69],V.str [83,84,65,82,84,84,76,83],V.str [82,69,81,85,73,82,69,84,76,83],V.str [68,83,78],V.str
 [56,66,73,84,77,73,77,69]] 9 1]else R (V.slice 11 0 6 false 0 0) [Blk.dead,Blk.dead,Blk.dead,Blk.dead,Blk.dead,Blk.dead,Blk.dead,Blk.dead,Blk.dead,
 Blk.dead,Blk.dead,Blk.row [V.str h,V.str [80,73,80,69,76,73,78,73,78,71],V.str [83,73,90,69],V.str [83,84,65,82,84,84,76,83],V.str [82,69,81,
 85,73,82,69,84,76,83],V.str [68,83,78]] 9 1]else bif a5 then R (V.slice 11 0 6 false 0 0) [Blk.dead,Blk.dead,Blk.dead,Blk.dead,Blk.dead,Blk.dead,Blk.dead,
 Blk.dead,Blk.dead,Blk.dead,Blk.dead,Blk.row [V.str h,V.str [80,73,80,69,76,73,78,73,78,71],V.str [83,73,90,69],V.str [83,84,65,82,84,84,76,83],
 V.str [82,69,81,85,73,82,69,84,76,83],V.str [56,66,73,84,77,73,77,69]] 9 1]else R (V.slice 9 0 5 false 0 0) [Blk.dead,Blk.dead,Blk.dead,Blk.dead,
 Blk.dead,Blk.dead,Blk.dead,Blk.dead,Blk.dead,Blk.row [V.str h,V.str [80,73,80,69,76,73,78,73,78,71],V.str [83,73,90,69],V.str [83,84,65,82,84,84,
 76,83],V.str [82,69,81,85,73,82,69,84,76,83]] 9 1]else bif a4 then bif a5 then R (V.slice 11 0 6 false 0 0) [Blk.dead,Blk.dead,Blk.dead,Blk.dead,Blk.dead,
 Blk.dead,Blk.dead,Blk.dead,Blk.dead,Blk.dead,Blk.dead,Blk.row [V.str h,V.str [80,73,80,69,76,73,78,73,78,71],V.str [83,73,90,69],V.str [83,84,65,
 82,84,84,76,83],V.str [68,83,78],V.str [56,66,73,84,77,73,77,69]] 9 1]else R (V.slice 9 0 5 false 0 0) [Blk.dead,Blk.dead,Blk.dead,Blk.dead,Blk.dead,
 Blk.dead,Blk.dead,Blk.dead,Blk.dead,Blk.row [V.str h,V.str [80,73,80,69,76,73,78,73,78,71],V.str [83,73,90,69],V.str [83,84,65,82,84,84,76,83],
 V.str [68,83,78]] 9 1]else bif a5 then R (V.slice 9 0 5 false 0 0) [Blk.dead,Blk.dead,Blk.dead,Blk.dead,Blk.dead,Blk.dead,Blk.dead,Blk.dead,Blk.dead,Blk.row
 [V.str h,V.str [80,73,80,69,76,73,78,73,78,71],V.str [83,73,90,69],V.str [83,84,65,82,84,84,76,83],V.str [56,66,73,84,77,73,77,69]] 9 1]
 else R (V.slice 7 0 4 false 0 0) [Blk.dead,Blk.dead,Blk.dead,Blk.dead,Blk.dead,Blk.dead,Blk.dead,Blk.row [V.str h,V.str [80,73,80,69,76,73,78,73,78,71],
 V.str [83,73,90,69],V.str [83,84,65,82,84,84,76,83]] 9 1]else bif a3 then bif a4 then bif a5 then R (V.slice 11 0 6 false 0 0) [Blk.dead,Blk.dead,Blk.dead,
 Blk.dead,Blk.dead,Blk.dead,Blk.dead,Blk.dead,Blk.dead,Blk.dead,Blk.dead,Blk.row [V.str h,V.str [80,73,80,69,76,73,78,73,78,71],V.str [83,73,90,69],
 V.str [82,69,81,85,73,82,69,84,76,83],V.str [68,83,78],V.str [56,66,73,84,77,73,77,69]] 9 1]else R (V.slice 9 0 5 false 0 0) [Blk.dead,Blk.dead,
 Blk.dead,Blk.dead,Blk.dead,Blk.dead,Blk.dead,Blk.dead,Blk.dead,Blk.row [V.str h,V.str [80,73,80,69,76,73,78,73,78,71],V.str [83,73,90,69],V.str [82,
 69,81,85,73,82,69,84,76,83],V.str [68,83,78]] 9 1]else bif a5 then R (V.slice 9 0 5 false 0 0) [Blk.dead,Blk.dead,Blk.dead,Blk.dead,Blk.dead,Blk.dead,
 Blk.dead,Blk.dead,Blk.dead,Blk.row [V.str h,V.str [80,73,80,69,76,73,78,73,78,71],V.str [83,73,90,69],V.str [82,69,81,85,73,82,69,84,76,83],
 V.str [56,66,73,84,77,73,77,69]] 9 1]else R (V.slice 7 0 4 false 0 0) [Blk.dead,Blk.dead,Blk.dead,Blk.dead,Blk.dead,Blk.dead,Blk.dead,Blk.row [V.str h,
 V.str [80,73,80,69,76,73,78,73,78,71],V.str [83,73,90,69],V.str [82,69,81,85,73,82,69,84,76,83]] 9 1]else bif a4 then bif a5 then R (V.slice 9 0 5
 false 0 0) [Blk.dead,Blk.dead,Blk.dead,Blk.dead,Blk.dead,Blk.dead,Blk.dead,Blk.dead,Blk.dead,Blk.row [V.str h,V.str [80,73,80,69,76,73,78,73,78,71],
 V.str [83,73,90,69],V.str [68,83,78],V.str [56,66,73,84,77,73,77,69]] 9 1]else R (V.slice 7 0 4 false 0 0) [Blk.dead,Blk.dead,Blk.dead,Blk.dead,
 Blk.dead,Blk.dead,Blk.dead,Blk.row [V.str h,V.str [80,73,80,69,76,73,78,73,78,71],V.str [83,73,90,69],V.str [68,83,78]] 9 1]else bif a5 then R
 (V.slice 7 0 4 false 0 0) [Blk.dead,Blk.dead,Blk.dead,Blk.dead,Blk.dead,Blk.dead,Blk.dead,Blk.row [V.str h,V.str [80,73,80,69,76,73,78,73,78,71],V.str
 [83,73,90,69],V.str [56,66,73,84,77,73,77,69]] 9 1]else R (V.slice 5 0 3 false 0 0) [Blk.dead,Blk.dead,Blk.dead,Blk.dead,Blk.dead,Blk.row [V.str h,V.str
 [80,73,80,69,76,73,78,73,78,71],V.str [83,73,90,69]] 9 1]else bif a1 then bif a3 then bif a4 then bif a5 then R (V.slice 11 0 6 false 0 0) [Blk.dead,
 Blk.dead,Blk.dead,Blk.dead,Blk.dead,Blk.dead,Blk.dead,Blk.dead,Blk.dead,Blk.dead,Blk.dead,Blk.row [V.str h,V.str [80,73,80,69,76,73,78,73,78,71],
 V.str [83,84,65,82,84,84,76,83],V.str [82,69,81,85,73,82,69,84,76,83],V.str [68,83,78],V.str [56,66,73,84,77,73,77,69]] 9 1]else R (V.slice 9
 0 5 false 0 0) [Blk.dead,Blk.dead,Blk.dead,Blk.dead,Blk.dead,Blk.dead,Blk.dead,Blk.dead,Blk.dead,Blk.row [V.str h,V.str [80,73,80,69,76,73,78,73,78,
 71],V.str [83,84,65,82,84,84,76,83],V.str [82,69,81,85,73,82,69,84,76,83],V.str [68,83,78]] 9 1]else bif a5 then R (V.slice 9 0 5 false 0 0)
 [Blk.dead,Blk.dead,Blk.dead,Blk.dead,Blk.dead,Blk.dead,Blk.dead,Blk.dead,Blk.dead,Blk.row [V.str h,V.str [80,73,80,69,76,73,78,73,78,71],V.str [83,
 84,65,82,84,84,76,83],V.str [82,69,81,85,73,82,69,84,76,83],V.str [56,66,73,84,77,73,77,69]] 9 1]else R (V.slice 7 0 4 false 0 0) [Blk.dead,
 Blk.dead,Blk.dead,Blk.dead,Blk.dead,Blk.dead,Blk.dead,Blk.row [V.str h,V.str [80,73,80,69,76,73,78,73,78,71],V.str [83,84,65,82,84,84,76,83],
 V.str [82,69,81,85,73,82,69,84,76,83]] 9 1]else bif a4 then bif a5 then R (V.slice 9 0 5 false 0 0) [Blk.dead,Blk.dead,Blk.dead,Blk.dead,Blk.dead,Blk.dead,
 Blk.dead,Blk.dead,Blk.dead,Blk.row [V.str h,V.str [80,73,80,69,76,73,78,73,78,71],V.str [83,84,65,82,84,84,76,83],V.str [68,83,78],V.str [56,66,
 73,84,77,73,77,69]] 9 1]else R (V.slice 7 0 4 false 0 0) [Blk.dead,Blk.dead,Blk.dead,Blk.dead,Blk.dead,Blk.dead,Blk.dead,Blk.row [V.str h,V.str [80,73,80,
 69,76,73,78,73,78,71],V.str [83,84,65,82,84,84,76,83],V.str [68,83,78]] 9 1]else bif a5 then R (V.slice 7 0 4 false 0 0) [Blk.dead,Blk.dead,Blk.dead,
 Blk.dead,Blk.dead,Blk.dead,Blk.dead,Blk.row [V.str h,V.str [80,73,80,69,76,73,78,73,78,71],V.str [83,84,65,82,84,84,76,83],V.str [56,66,73,84,
 77,73,77,69]] 9 1]else R (V.slice 5 0 3 false 0 0) [Blk.dead,Blk.dead,Blk.dead,Blk.dead,Blk.dead,Blk.row [V.str h,V.str [80,73,80,69,76,73,78,73,78,
 71],V.str [83,84,65,82,84,84,76,83]] 9 1]else bif a3 then bif a4 then bif a5 then R (V.slice 9 0 5 false 0 0) [Blk.dead,Blk.dead,Blk.dead,Blk.dead,Blk.dead,
 Blk.dead,Blk.dead,Blk.dead,Blk.dead,Blk.row [V.str h,V.str [80,73,80,69,76,73,78,73,78,71],V.str [82,69,81,85,73,82,69,84,76,83],V.str [68,83,
 78],V.str [56,66,73,84,77,73,77,69]] 9 1]else R (V.slice 7 0 4 false 0 0) [Blk.dead,Blk.dead,Blk.dead,Blk.dead,Blk.dead,Blk.dead,Blk.dead,Blk.row [V.str
 h,V.str [80,73,80,69,76,73,78,73,78,71],V.str [82,69,81,85,73,82,69,84,76,83],V.str [68,83,78]] 9 1]else bif a5 then R (V.slice 7 0 4 false 0 0)
 [Blk.dead,Blk.dead,Blk.dead,Blk.dead,Blk.dead,Blk.dead,Blk.dead,Blk.row [V.str h,V.str [80,73,80,69,76,73,78,73,78,71],V.str [82,69,81,85,73,82,
 69,84,76,83],V.str [56,66,73,84,77,73,77,69]] 9 1]else R (V.slice 5 0 3 false 0 0) [Blk.dead,Blk.dead,Blk.dead,Blk.dead,Blk.dead,Blk.row [V.str h,V.str
 [80,73,80,69,76,73,78,73,78,71],V.str [82,69,81,85,73,82,69,84,76,83]] 9 1]else bif a4 then bif a5 then R (V.slice 7 0 4 false 0 0) [Blk.dead,
 Blk.dead,Blk.dead,Blk.dead,Blk.dead,Blk.dead,Blk.dead,Blk.row [V.str h,V.str [80,73,80,69,76,73,78,73,78,71],V.str [68,83,78],V.str [56,66,73,84,
 77,73,77,69]] 9 1]else R (V.slice 5 0 3 false 0 0) [Blk.dead,Blk.dead,Blk.dead,Blk.dead,Blk.dead,Blk.row [V.str h,V.str [80,73,80,69,76,73,78,73,78,
 71],V.str [68,83,78]] 9 1]else bif a5 then R (V.slice 5 0 3 false 0 0) [Blk.dead,Blk.dead,Blk.dead,Blk.dead,Blk.dead,Blk.row [V.str h,V.str [80,73,80,69,76,
 73,78,73,78,71],V.str [56,66,73,84,77,73,77,69]] 9 1]else R (V.slice 3 0 2 false 0 0) [Blk.dead,Blk.dead,Blk.dead,Blk.row [V.str h,V.str [80,73,80,69,
 76,73,78,73,78,71]] 9 1]else bif a6 then bif a1 then bif a3 then bif a4 then bif a5 then R (V.slice 13 0 7 false 0 0) [Blk.dead,Blk.dead,Blk.dead,Blk.dead,
 Blk.dead,Blk.dead,Blk.dead,Blk.dead,Blk.dead,Blk.dead,Blk.dead,Blk.dead,Blk.dead,Blk.row [V.str h,V.str [80,73,80,69,76,73,78,73,78,71],V.str [83,73,
 90,69],V.str [83,84,65,82,84,84,76,83],V.str [82,69,81,85,73,82,69,84,76,83],V.str [68,83,78],V.str [56,66,73,84,77,73,77,69]] 9 1]else R
 (V.slice 11 0 6 false 0 0) [Blk.dead,Blk.dead,Blk.dead,Blk.dead,Blk.dead,Blk.dead,Blk.dead,Blk.dead,Blk.dead,Blk.dead,Blk.dead,Blk.row [V.str h,V.str [80,73,
 80,69,76,73,78,73,78,71],V.str [83,73,90,69],V.str [83,84,65,82,84,84,76,83],V.str [82,69,81,85,73,82,69,84,76,83],V.str [68,83,78]] 9 1]
 else bif a5 then R (V.slice 11 0 6 false 0 0) [Blk.dead,Blk.dead,Blk.dead,Blk.dead,Blk.dead,Blk.dead,Blk.dead,Blk.dead,Blk.dead,Blk.dead,Blk.dead,Blk.row
 [V.str h,V.str [80,73,80,69,76,73,78,73,78,71],V.str [83,73,90,69],V.str [83,84,65,82,84,84,76,83],V.str [82,69,81,85,73,82,69,84,76,83],
 V.str [56,66,73,84,77,73,77,69]] 9 1]else R (V.slice 9 0 5 false 0 0) [Blk.dead,Blk.dead,Blk.dead,Blk.dead,Blk.dead,Blk.dead,Blk.dead,Blk.dead,Blk.dead,
 Blk.row [V.str h,V.str [80,73,80,69,76,73,78,73,78,71],V.str [83,73,90,69],V.str [83,84,65,82,84,84,76,83],V.str [82,69,81,85,73,82,69,84,
 76,83]] 9 1]else bif a4 then bif a5 then R (V.slice 11 0 6 false 0 0) [Blk.dead,Blk.dead,Blk.dead,Blk.dead,Blk.dead,Blk.dead,Blk.dead,Blk.dead,Blk.dead,
 Blk.dead,Blk.dead,Blk.row [V.str h,V.str [80,73,80,69,76,73,78,73,78,71],V.str [83,73,90,69],V.str [83,84,65,82,84,84,76,83],V.str [68,83,78],
 V.str [56,66,73,84,77,73,77,69]] 9 1]else R (V.slice 9 0 5 false 0 0) [Blk.dead,Blk.dead,Blk.dead,Blk.dead,Blk.dead,Blk.dead,Blk.dead,Blk.dead,Blk.dead,
 Blk.row [V.str h,V.str [80,73,80,69,76,73,78,73,78,71],V.str [83,73,90,69],V.str [83,84,65,82,84,84,76,83],V.str [68,83,78]] 9 1]else bif a5
 then R (V.slice 9 0 5 false 0 0) [Blk.dead,Blk.dead,Blk.dead,Blk.dead,Blk.dead,Blk.dead,Blk.dead,Blk.dead,Blk.dead,Blk.row [V.str h,V.str [80,73,80,69,76,
 73,78,73,78,71],V.str [83,73,90,69],V.str [83,84,65,82,84,84,76,83],V.str [56,66,73,84,77,73,77,69]] 9 1]else R (V.slice 7 0 4 false 0 0)
 [Blk.dead,Blk.dead,Blk.dead,Blk.dead,Blk.dead,Blk.dead,Blk.dead,Blk.row [V.str h,V.str [80,73,80,69,76,73,78,73,78,71],V.str [83,73,90,69],V.str
 [83,84,65,82,84,84,76,83]] 9 1]else bif a3 then bif a4 then bif a5 then R (V.slice 11 0 6 false 0 0) [Blk.dead,Blk.dead,Blk.dead,Blk.dead,Blk.dead,Blk.dead,
 Blk.dead,Blk.dead,Blk.dead,Blk.dead,Blk.dead,Blk.row [V.str h,V.str [80,73,80,69,76,73,78,73,78,71],V.str [83,73,90,69],V.str [82,69,81,85,73,82,
 69,84,76,83],V.str [68,83,78],V.str [56,66,73,84,77,73,77,69]] 9 1]else R (V.slice 9 0 5 false 0 0) [Blk.dead,Blk.dead,Blk.dead,Blk.dead,Blk.dead,
 Blk.dead,Blk.dead,Blk.dead,Blk.dead,Blk.row [V.str h,V.str [80,73,80,69,76,73,78,73,78,71],V.str [83,73,90,69],V.str [82,69,81,85,73,82,69,84,
 76,83],V.str [68,83,78]] 9 1]else bif a5 then R (V.slice 9 0 5 false 0 0) [Blk.dead,Blk.dead,Blk.dead,Blk.dead,Blk.dead,Blk.dead,Blk.dead,Blk.dead,Blk.dead,
 Blk.row [V.str h,V.str [80,73,80,69,76,73,78,73,78,71],V.str [83,73,90,69],V.str [82,69,81,85,73,82,69,84,76,83],V.str [56,66,73,84,77,73,
 77,69]] 9 1]else R (V.slice 7 0 4 false 0 0) [Blk.dead,Blk.dead,Blk.dead,Blk.dead,Blk.dead,Blk.dead,Blk.dead,Blk.row [V.str h,V.str [80,73,80,69,76,73,78,
 73,78,71],V.str [83,73,90,69],V.str [82,69,81,85,73,82,69,84,76,83]] 9 1]else bif a4 then bif a5 then R (V.slice 9 0 5 false 0 0) [Blk.dead,Blk.dead,
 Blk.dead,Blk.dead,Blk.dead,Blk.dead,Blk.dead,Blk.dead,Blk.dead,Blk.row [V.str h,V.str [80,73,80,69,76,73,78,73,78,71],V.str [83,73,90,69],V.str [68,
 83,78],V.str [56,66,73,84,77,73,77,69]] 9 1]else R (V.slice 7 0 4 false 0 0) [Blk.dead,Blk.dead,Blk.dead,Blk.dead,Blk.dead,Blk.dead,Blk.dead,Blk.row
 [V.str h,V.str [80,73,80,69,76,73,78,73,78,71],V.str [83,73,90,69],V.str [68,83,78]] 9 1]else bif a5 then R (V.slice 7 0 4 false 0 0) [Blk.dead,
 Blk.dead,Blk.dead,Blk.dead,Blk.dead,Blk.dead,Blk.dead,Blk.row [V.str h,V.str [80,73,80,69,76,73,78,73,78,71],V.str [83,73,90,69],V.str [56,66,73,
 84,77,73,77,69]] 9 1]else R (V.slice 5 0 3 false 0 0) [Blk.dead,Blk.dead,Blk.dead,Blk.dead,Blk.dead,Blk.row [V.str h,V.str [80,73,80,69,76,73,78,73,78,
 71],V.str [83,73,90,69]] 9 1]else bif a1 then bif a3 then bif a4 then bif a5 then R (V.slice 11 0 6 false 0 0) [Blk.dead,Blk.dead,Blk.dead,Blk.dead,Blk.dead,
 Blk.dead,Blk.dead,Blk.dead,Blk.dead,Blk.dead,Blk.dead,Blk.row [V.str h,V.str [80,73,80,69,76,73,78,73,78,71],V.str [83,84,65,82,84,84,76,83],
 V.str [82,69,81,85,73,82,69,84,76,83],V.str [68,83,78],V.str [56,66,73,84,77,73,77,69]] 9 1]else R (V.slice 9 0 5 false 0 0) [Blk.dead,Blk.dead,
 Blk.dead,Blk.dead,Blk.dead,Blk.dead,Blk.dead,Blk.dead,Blk.dead,Blk.row [V.str h,V.str [80,73,80,69,76,73,78,73,78,71],V.str [83,84,65,82,84,84,76,
 83],V.str [82,69,81,85,73,82,69,84,76,83],V.str [68,83,78]] 9 1]else bif a5 then R (V.slice 9 0 5 false 0 0) [Blk.dead,Blk.dead,Blk.dead,Blk.dead,
 Blk.dead,Blk.dead,Blk.dead,Blk.dead,Blk.dead,Blk.row [V.str h,V.str [80,73,80,69,76,73,78,73,78,71],V.str [83,84,65,82,84,84,76,83],V.str [82,69,
 81,85,73,82,69,84,76,83],V.str [56,66,73,84,77,73,77,69]] 9 1]else R (V.slice 7 0 4 false 0 0) [Blk.dead,Blk.dead,Blk.dead,Blk.dead,Blk.dead,
 Blk.dead,Blk.dead,Blk.row [V.str h,V.str [80,73,80,69,76,73,78,73,78,71],V.str [83,84,65,82,84,84,76,83],V.str [82,69,81,85,73,82,69,84,76,
 83]] 9 1]else bif a4 then bif a5 then R (V.slice 9 0 5 false 0 0) [Blk.dead,Blk.dead,Blk.dead,Blk.dead,Blk.dead,Blk.dead,Blk.dead,Blk.dead,Blk.dead,Blk.row
 [V.str h,V.str [80,73,80,69,76,73,78,73,78,71],V.str [83,84,65,82,84,84,76,83],V.str [68,83,78],V.str [56,66,73,84,77,73,77,69]] 9 1]else R
 (V.slice 7 0 4 false 0 0) [Blk.dead,Blk.dead,Blk.dead,Blk.dead,Blk.dead,Blk.dead,Blk.dead,Blk.row [V.str h,V.str [80,73,80,69,76,73,78,73,78,71],V.str
 [83,84,65,82,84,84,76,83],V.str [68,83,78]] 9 1]else bif a5 then R (V.slice 7 0 4 false 0 0) [Blk.dead,Blk.dead,Blk.dead,Blk.dead,Blk.dead,Blk.dead,
 Blk.dead,Blk.row [V.str h,V.str [80,73,80,69,76,73,78,73,78,71],V.str [83,84,65,82,84,84,76,83],V.str [56,66,73,84,77,73,77,69]] 9 1]else R
 (V.slice 5 0 3 false 0 0) [Blk.dead,Blk.dead,Blk.dead,Blk.dead,Blk.dead,Blk.row [V.str h,V.str [80,73,80,69,76,73,78,73,78,71],V.str [83,84,65,82,84,
 84,76,83]] 9 1]else bif a3 then bif a4 then bif a5 then R (V.slice 9 0 5 false 0 0) [Blk.dead,Blk.dead,Blk.dead,Blk.dead,Blk.dead,Blk.dead,Blk.dead,Blk.dead,
 Blk.dead,Blk.row [V.str h,V.str [80,73,80,69,76,73,78,73,78,71],V.str [82,69,81,85,73,82,69,84,76,83],V.str [68,83,78],V.str [56,66,73,84,77,
 73,77,69]] 9 1]else R (V.slice 7 0 4 false 0 0) [Blk.dead,Blk.dead,Blk.dead,Blk.dead,Blk.dead,Blk.dead,Blk.dead,Blk.row [V.str h,V.str [80,73,80,69,76,73,
 78,73,78,71],V.str [82,69,81,85,73,82,69,84,76,83],V.str [68,83,78]] 9 1]else bif a5 then R (V.slice 7 0 4 false 0 0) [Blk.dead,Blk.dead,Blk.dead,
 Blk.dead,Blk.dead,Blk.dead,Blk.dead,Blk.row [V.str h,V.str [80,73,80,69,76,73,78,73,78,71],V.str [82,69,81,85,73,82,69,84,76,83],V.str [56,66,
 73,84,77,73,77,69]] 9 1]else R (V.slice 5 0 3 false 0 0) [Blk.dead,Blk.dead,Blk.dead,Blk.dead,Blk.dead,Blk.row [V.str h,V.str [80,73,80,69,76,73,78,73,
 78,71],V.str [82,69,81,85,73,82,69,84,76,83]] 9 1]else bif a4 then bif a5 then R (V.slice 7 0 4 false 0 0) [Blk.dead,Blk.dead,Blk.dead,Blk.dead,Blk.dead,
 Blk.dead,Blk.dead,Blk.row [V.str h,V.str [80,73,80,69,76,73,78,73,78,71],V.str [68,83,78],V.str [56,66,73,84,77,73,77,69]] 9 1]else R (V.slice 5 0
 3 false 0 0) [Blk.dead,Blk.dead,Blk.dead,Blk.dead,Blk.dead,Blk.row [V.str h,V.str [80,73,80,69,76,73,78,73,78,71],V.str [68,83,78]] 9 1]else bif a5
 then R (V.slice 5 0 3 false 0 0) [Blk.dead,Blk.dead,Blk.dead,Blk.dead,Blk.dead,Blk.row [V.str h,V.str [80,73,80,69,76,73,78,73,78,71],V.str [56,66,73,
 84,77,73,77,69]] 9 1]else R (V.slice 3 0 2 false 0 0) [Blk.dead,Blk.dead,Blk.dead,Blk.row [V.str h,V.str [80,73,80,69,76,73,78,73,78,71]] 9 1]else bif
 a6 then bif a1 then bif a3 then bif a4 then bif a5 then R (V.slice 13 0 7 false 0 0) [Blk.dead,Blk.dead,Blk.dead,Blk.dead,Blk.dead,Blk.dead,Blk.dead,Blk.dead,
 Blk.dead,Blk.dead,Blk.dead,Blk.dead,Blk.dead,Blk.row [V.str h,V.str [80,73,80,69,76,73,78,73,78,71],V.str [83,73,90,69],V.str [83,84,65,82,84,84,
 76,83],V.str [82,69,81,85,73,82,69,84,76,83],V.str [68,83,78],V.str [56,66,73,84,77,73,77,69]] 9 1]else R (V.slice 11 0 6 false 0 0) [Blk.dead,
 Blk.dead,Blk.dead,Blk.dead,Blk.dead,Blk.dead,Blk.dead,Blk.dead,Blk.dead,Blk.dead,Blk.dead,Blk.row [V.str h,V.str [80,73,80,69,76,73,78,73,78,71],
 V.str [83,73,90,69],V.str [83,84,65,82,84,84,76,83],V.str [82,69,81,85,73,82,69,84,76,83],V.str [68,83,78]] 9 1]else bif a5 then R (V.slice 11 0
 6 false 0 0) [Blk.dead,Blk.dead,Blk.dead,Blk.dead,Blk.dead,Blk.dead,Blk.dead,Blk.dead,Blk.dead,Blk.dead,Blk.dead,Blk.row [V.str h,V.str [80,73,80,69,76,
 73,78,73,78,71],V.str [83,73,90,69],V.str [83,84,65,82,84,84,76,83],V.str [82,69,81,85,73,82,69,84,76,83],V.str [56,66,73,84,77,73,77,
 69]] 9 1]else R (V.slice 9 0 5 false 0 0) [Blk.dead,Blk.dead,Blk.dead,Blk.dead,Blk.dead,Blk.dead,Blk.dead,Blk.dead,Blk.dead,Blk.row [V.str h,V.str [80,73,80,
 69,76,73,78,73,78,71],V.str [83,73,90,69],V.str [83,84,65,82,84,84,76,83],V.str [82,69,81,85,73,82,69,84,76,83]] 9 1]else bif a4 then bif a5
 then R (V.slice 11 0 6 false 0 0) [Blk.dead,Blk.dead,Blk.dead,Blk.dead,Blk.dead,Blk.dead,Blk.dead,Blk.dead,Blk.dead,Blk.dead,Blk.dead,Blk.row [V.str h,V.str
 [80,73,80,69,76,73,78,73,78,71],V.str [83,73,90,69],V.str [83,84,65,82,84,84,76,83],V.str [68,83,78],V.str [56,66,73,84,77,73,77,69]] 9 1]
 else R (V.slice 9 0 5 false 0 0) [Blk.dead,Blk.dead,Blk.dead,Blk.dead,Blk.dead,Blk.dead,Blk.dead,Blk.dead,Blk.dead,Blk.row [V.str h,V.str [80,73,80,69,76,
 73,78,73,78,71],V.str [83,73,90,69],V.str [83,84,65,82,84,84,76,83],V.str [68,83,78]] 9 1]else bif a5 then R (V.slice 9 0 5 false 0 0) [Blk.dead,
 Blk.dead,Blk.dead,Blk.dead,Blk.dead,Blk.dead,Blk.dead,Blk.dead,Blk.dead,Blk.row [V.str h,V.str [80,73,80,69,76,73,78,73,78,71],V.str [83,73,90,69],
 V.str [83,84,65,82,84,84,76,83],V.str [56,66,73,84,77,73,77,69]] 9 1]else R (V.slice 7 0 4 false 0 0) [Blk.dead,Blk.dead,Blk.dead,Blk.dead,Blk.dead,
 Blk.dead,Blk.dead,Blk.row [V.str h,V.str [80,73,80,69,76,73,78,73,78,71],V.str [83,73,90,69],V.str [83,84,65,82,84,84,76,83]] 9 1]else bif a3
 then bif a4 then bif a5 then R (V.slice 11 0 6 false 0 0) [Blk.dead,Blk.dead,Blk.dead,Blk.dead,Blk.dead,Blk.dead,Blk.dead,Blk.dead,Blk.dead,Blk.dead,Blk.dead,
 Blk.row [V.str h,V.str [80,73,80,69,76,73,78,73,78,71],V.str [83,73,90,69],V.str [82,69,81,85,73,82,69,84,76,83],V.str [68,83,78],V.str [56,
 66,73,84,77,73,77,69]] 9 1]else R (V.slice 9 0 5 false 0 0) [Blk.dead,Blk.dead,Blk.dead,Blk.dead,Blk.dead,Blk.dead,Blk.dead,Blk.dead,Blk.dead,Blk.row
 [V.str h,V.str [80,73,80,69,76,73,78,73,78,71],V.str [83,73,90,69],V.str [82,69,81,85,73,82,69,84,76,83],V.str [68,83,78]] 9 1]else bif a5
 then R (V.slice 9 0 5 false 0 0) [Blk.dead,Blk.dead,Blk.dead,Blk.dead,Blk.dead,Blk.dead,Blk.dead,Blk.dead,Blk.dead,Blk.row [V.str h,V.str [80,73,80,69,76,
 73,78,73,78,71],V.str [83,73,90,69],V.str [82,69,81,85,73,82,69,84,76,83],V.str [56,66,73,84,77,73,77,69]] 9 1]else R (V.slice 7 0 4 false 0 0)
 [Blk.dead,Blk.dead,Blk.dead,Blk.dead,Blk.dead,Blk.dead,Blk.dead,Blk.row [V.str h,V.str [80,73,80,69,76,73,78,73,78,71],V.str [83,73,90,69],V.str
 [82,69,81,85,73,82,69,84,76,83]] 9 1]else bif a4 then bif a5 then R (V.slice 9 0 5 false 0 0) [Blk.dead,Blk.dead,Blk.dead,Blk.dead,Blk.dead,Blk.dead,
 Blk.dead,Blk.dead,Blk.dead,Blk.row [V.str h,V.str [80,73,80,69,76,73,78,73,78,71],V.str [83,73,90,69],V.str [68,83,78],V.str [56,66,73,84,77,73,
 77,69]] 9 1]else R (V.slice 7 0 4 false 0 0) [Blk.dead,Blk.dead,Blk.dead,Blk.dead,Blk.dead,Blk.dead,Blk.dead,Blk.row [V.str h,V.str [80,73,80,69,76,73,78,
 73,78,71],V.str [83,73,90,69],V.str [68,83,78]] 9 1]else bif a5 then R (V.slice 7 0 4 false 0 0) [Blk.dead,Blk.dead,Blk.dead,Blk.dead,Blk.dead,Blk.dead,
 Blk.dead,Blk.row [V.str h,V.str [80,73,80,69,76,73,78,73,78,71],V.str [83,73,90,69],V.str [56,66,73,84,77,73,77,69]] 9 1]else R (V.slice 5 0 3
 false 0 0) [Blk.dead,Blk.dead,Blk.dead,Blk.dead,Blk.dead,Blk.row [V.str h,V.str [80,73,80,69,76,73,78,73,78,71],V.str [83,73,90,69]] 9 1]else bif a1
 then bif a3 then bif a4 then bif a5 then R (V.slice 11 0 6 false 0 0) [Blk.dead,Blk.dead,Blk.dead,Blk.dead,Blk.dead,Blk.dead,Blk.dead,Blk.dead,Blk.dead,Blk.dead,
 Blk.dead,Blk.row [V.str h,V.str [80,73,80,69,76,73,78,73,78,71],V.str [83,84,65,82,84,84,76,83],V.str [82,69,81,85,73,82,69,84,76,83],V.str
 [68,83,78],V.str [56,66,73,84,77,73,77,69]] 9 1]else R (V.slice 9 0 5 false 0 0) [Blk.dead,Blk.dead,Blk.dead,Blk.dead,Blk.dead,Blk.dead,Blk.dead,
 Blk.dead,Blk.dead,Blk.row [V.str h,V.str [80,73,80,69,76,73,78,73,78,71],V.str [83,84,65,82,84,84,76,83],V.str [82,69,81,85,73,82,69,84,76,
 83],V.str [68,83,78]] 9 1]else bif a5 then R (V.slice 9 0 5 false 0 0) [Blk.dead,Blk.dead,Blk.dead,Blk.dead,Blk.dead,Blk.dead,Blk.dead,Blk.dead,Blk.dead,
 Blk.row [V.str h,V.str [80,73,80,69,76,73,78,73,78,71],V.str [83,84,65,82,84,84,76,83],V.str [82,69,81,85,73,82,69,84,76,83],V.str [56,66,
 73,84,77,73,77,69]] 9 1]else R (V.slice 7 0 4 false 0 0) [Blk.dead,Blk.dead,Blk.dead,Blk.dead,Blk.dead,Blk.dead,Blk.dead,Blk.row [V.str h,V.str [80,73,80,
 69,76,73,78,73,78,71],V.str [83,84,65,82,84,84,76,83],V.str [82,69,81,85,73,82,69,84,76,83]] 9 1]else bif a4 then bif a5 then R (V.slice 9 0 5
 false 0 0) [Blk.dead,Blk.dead,Blk.dead,Blk.dead,Blk.dead,Blk.dead,Blk.dead,Blk.dead,Blk.dead,Blk.row [V.str h,V.str [80,73,80,69,76,73,78,73,78,71],
 V.str [83,84,65,82,84,84,76,83],V.str [68,83,78],V.str [56,66,73,84,77,73,77,69]] 9 1]else R (V.slice 7 0 4 false 0 0) [Blk.dead,Blk.dead,Blk.dead,
 Blk.dead,Blk.dead,Blk.dead,Blk.dead,Blk.row [V.str h,V.str [80,73,80,69,76,73,78,73,78,71],V.str [83,84,65,82,84,84,76,83],V.str [68,83,78]] 9 1]
 else bif a5 then R (V.slice 7 0 4 false 0 0) [Blk.dead,Blk.dead,Blk.dead,Blk.dead,Blk.dead,Blk.dead,Blk.dead,Blk.row [V.str h,V.str [80,73,80,69,76,73,78,
 73,78,71],V.str [83,84,65,82,84,84,76,83],V.str [56,66,73,84,77,73,77,69]] 9 1]else R (V.slice 5 0 3 false 0 0) [Blk.dead,Blk.dead,Blk.dead,
 Blk.dead,Blk.dead,Blk.row [V.str h,V.str [80,73,80,69,76,73,78,73,78,71],V.str [83,84,65,82,84,84,76,83]] 9 1]else bif a3 then bif a4 then bif a5
 then R (V.slice 9 0 5 false 0 0) [Blk.dead,Blk.dead,Blk.dead,Blk.dead,Blk.dead,Blk.dead,Blk.dead,Blk.dead,Blk.dead,Blk.row [V.str h,V.str [80,73,80,69,76,
 73,78,73,78,71],V.str [82,69,81,85,73,82,69,84,76,83],V.str [68,83,78],V.str [56,66,73,84,77,73,77,69]] 9 1]else R (V.slice 7 0 4 false 0 0)
 [Blk.dead,Blk.dead,Blk.dead,Blk.dead,Blk.dead,Blk.dead,Blk.dead,Blk.row [V.str h,V.str [80,73,80,69,76,73,78,73,78,71],V.str [82,69,81,85,73,82,
 69,84,76,83],V.str [68,83,78]] 9 1]else bif a5 then R (V.slice 7 0 4 false 0 0) [Blk.dead,Blk.dead,Blk.dead,Blk.dead,Blk.dead,Blk.dead,Blk.dead,Blk.row
 [V.str h,V.str [80,73,80,69,76,73,78,73,78,71],V.str [82,69,81,85,73,82,69,84,76,83],V.str [56,66,73,84,77,73,77,69]] 9 1]else R (V.slice 5 0
 3 false 0 0) [Blk.dead,Blk.dead,Blk.dead,Blk.dead,Blk.dead,Blk.row [V.str h,V.str [80,73,80,69,76,73,78,73,78,71],V.str [82,69,81,85,73,82,69,84,
 76,83]] 9 1]else bif a4 then bif a5 then R (V.slice 7 0 4 false 0 0) [Blk.dead,Blk.dead,Blk.dead,Blk.dead,Blk.dead,Blk.dead,Blk.dead,Blk.row [V.str h,V.str [80,
 73,80,69,76,73,78,73,78,71],V.str [68,83,78],V.str [56,66,73,84,77,73,77,69]] 9 1]else R (V.slice 5 0 3 false 0 0) [Blk.dead,Blk.dead,Blk.dead,
 Blk.dead,Blk.dead,Blk.row [V.str h,V.str [80,73,80,69,76,73,78,73,78,71],V.str [68,83,78]] 9 1]else bif a5 then R (V.slice 5 0 3 false 0 0) [Blk.dead,
 Blk.dead,Blk.dead,Blk.dead,Blk.dead,Blk.row [V.str h,V.str [80,73,80,69,76,73,78,73,78,71],V.str [56,66,73,84,77,73,77,69]] 9 1]else R (V.slice 3 0
 2 false 0 0) [Blk.dead,Blk.dead,Blk.dead,Blk.row [V.str h,V.str [80,73,80,69,76,73,78,73,78,71]] 9 1]else bif a6 then bif decide (mo≥1)then bif decide
 (mo≤1099511627776)then bif isI64 mo then bif (5+(IT mo).length).ble 9223372036854775807 then bif a1 then bif a3 then bif a4 then bif a5 then R (V.slice 11 0 6 false
 0 0) [Blk.dead,Blk.dead,Blk.dead,Blk.dead,Blk.dead,Blk.dead,Blk.dead,Blk.dead,Blk.dead,Blk.dead,Blk.dead,Blk.row [V.str h,V.str ([83,73,90,69,32]++IT
 mo),V.str [83,84,65,82,84,84,76,83],V.str [82,69,81,85,73,82,69,84,76,83],V.str [68,83,78],V.str [56,66,73,84,77,73,77,69]] 9 1]else R
 (V.slice 9 0 5 false 0 0) [Blk.dead,Blk.dead,Blk.dead,Blk.dead,Blk.dead,Blk.dead,Blk.dead,Blk.dead,Blk.dead,Blk.row [V.str h,V.str ([83,73,90,69,32]++IT
 mo),V.str [83,84,65,82,84,84,76,83],V.str [82,69,81,85,73,82,69,84,76,83],V.str [68,83,78]] 9 1]else bif a5 then R (V.slice 9 0 5 false 0 0)
 [Blk.dead,Blk.dead,Blk.dead,Blk.dead,Blk.dead,Blk.dead,Blk.dead,Blk.dead,Blk.dead,Blk.row [V.str h,V.str ([83,73,90,69,32]++IT mo),V.str [83,84,65,82,
 84,84,76,83],V.str [82,69,81,85,73,82,69,84,76,83],V.str [56,66,73,84,77,73,77,69]] 9 1]else R (V.slice 7 0 4 false 0 0) [Blk.dead,Blk.dead,
 Blk.dead,Blk.dead,Blk.dead,Blk.dead,Blk.dead,Blk.row [V.str h,V.str ([83,73,90,69,32]++IT mo),V.str [83,84,65,82,84,84,76,83],V.str [82,69,81,85,
 73,82,69,84,76,83]] 9 1]else bif a4 then bif a5 then R (V.slice 9 0 5 false 0 0) [Blk.dead,Blk.dead,Blk.dead,Blk.dead,Blk.dead,Blk.dead,Blk.dead,Blk.dead,
 Blk.dead,Blk.row [V.str h,V.str ([83,73,90,69,32]++IT mo),V.str [83,84,65,82,84,84,76,83],V.str [68,83,78],V.str [56,66,73,84,77,73,77,69]] 9
 1]else R (V.slice 7 0 4 false 0 0) [Blk.dead,Blk.dead,Blk.dead,Blk.dead,Blk.dead,Blk.dead,Blk.dead,Blk.row [V.str h,V.str ([83,73,90,69,32]++IT mo),V.str
 [83,84,65,82,84,84,76,83],V.str [68,83,78]] 9 1]else bif a5 then R (V.slice 7 0 4 false 0 0) [Blk.dead,Blk.dead,Blk.dead,Blk.dead,Blk.dead,Blk.dead,
 Blk.dead,Blk.row [V.str h,V.str ([83,73,90,69,32]++IT mo),V.str [83,84,65,82,84,84,76,83],V.str [56,66,73,84,77,73,77,69]] 9 1]else R (V.slice 5
 0 3 false 0 0) [Blk.dead,Blk.dead,Blk.dead,Blk.dead,Blk.dead,Blk.row [V.str h,V.str ([83,73,90,69,32]++IT mo),V.str [83,84,65,82,84,84,76,83]] 9 1]
 else bif a3 then bif a4 then bif a5 then R (V.slice 9 0 5 false 0 0) [Blk.dead,Blk.dead,Blk.dead,Blk.dead,Blk.dead,Blk.dead,Blk.dead,Blk.dead,Blk.dead,Blk.row
 [V.str h,V.str ([83,73,90,69,32]++IT mo),V.str [82,69,81,85,73,82,69,84,76,83],V.str [68,83,78],V.str [56,66,73,84,77,73,77,69]] 9 1]else R
 (V.slice 7 0 4 false 0 0) [Blk.dead,Blk.dead,Blk.dead,Blk.dead,Blk.dead,Blk.dead,Blk.dead,Blk.row [V.str h,V.str ([83,73,90,69,32]++IT mo),V.str [82,69,
 81,85,73,82,69,84,76,83],V.str [68,83,78]] 9 1]else bif a5 then R (V.slice 7 0 4 false 0 0) [Blk.dead,Blk.dead,Blk.dead,Blk.dead,Blk.dead,Blk.dead,
 Blk.dead,Blk.row [V.str h,V.str ([83,73,90,69,32]++IT mo),V.str [82,69,81,85,73,82,69,84,76,83],V.str [56,66,73,84,77,73,77,69]] 9 1]else R
 (V.slice 5 0 3 false 0 0) [Blk.dead,Blk.dead,Blk.dead,Blk.dead,Blk.dead,Blk.row [V.str h,V.str ([83,73,90,69,32]++IT mo),V.str [82,69,81,85,73,82,69,
 84,76,83]] 9 1]else bif a4 then bif a5 then R (V.slice 7 0 4 false 0 0) [Blk.dead,Blk.dead,Blk.dead,Blk.dead,Blk.dead,Blk.dead,Blk.dead,Blk.row [V.str h,V.str
 ([83,73,90,69,32]++IT mo),V.str [68,83,78],V.str [56,66,73,84,77,73,77,69]] 9 1]else R (V.slice 5 0 3 false 0 0) [Blk.dead,Blk.dead,Blk.dead,
 Blk.dead,Blk.dead,Blk.row [V.str h,V.str ([83,73,90,69,32]++IT mo),V.str [68,83,78]] 9 1]else bif a5 then R (V.slice 5 0 3 false 0 0) [Blk.dead,Blk.dead,
 Blk.dead,Blk.dead,Blk.dead,Blk.row [V.str h,V.str ([83,73,90,69,32]++IT mo),V.str [56,66,73,84,77,73,77,69]] 9 1]else R (V.slice 3 0 2 false 0 0)
 [Blk.dead,Blk.dead,Blk.dead,Blk.row [V.str h,V.str ([83,73,90,69,32]++IT mo)] 9 1]else False else False else bif a6 then bif a1 then bif a3 then bif a4 then
 bif a5 then R (V.slice 11 0 6 false 0 0) [Blk.dead,Blk.dead,Blk.dead,Blk.dead,Blk.dead,Blk.dead,Blk.dead,Blk.dead,Blk.dead,Blk.dead,Blk.dead,Blk.row [V.str h,
 V.str [83,73,90,69],V.str [83,84,65,82,84,84,76,83],V.str [82,69,81,85,73,82,69,84,76,83],V.str [68,83,78],V.str [56,66,73,84,77,73,77,
 69]] 9 1]else R (V.slice 9 0 5 false 0 0) [Blk.dead,Blk.dead,Blk.dead,Blk.dead,Blk.dead,Blk.dead,Blk.dead,Blk.dead,Blk.dead,Blk.row [V.str h,V.str [83,73,90,
 69],V.str [83,84,65,82,84,84,76,83],V.str [82,69,81,85,73,82,69,84,76,83],V.str [68,83,78]] 9 1]else bif a5 then R (V.slice 9 0 5 false 0 0)
 [Blk.dead,Blk.dead,Blk.dead,Blk.dead,Blk.dead,Blk.dead,Blk.dead,Blk.dead,Blk.dead,Blk.row [V.str h,V.str [83,73,90,69],V.str [83,84,65,82,84,84,76,
 83],V.str [82,69,81,85,73,82,69,84,76,83],V.str [56,66,73,84,77,73,77,69]] 9 1]else R (V.slice 7 0 4 false 0 0) [Blk.dead,Blk.dead,Blk.dead,
 Blk.dead,Blk.dead,Blk.dead,Blk.dead,Blk.row [V.str h,V.str [83,73,90,69],V.str [83,84,65,82,84,84,76,83],V.str [82,69,81,85,73,82,69,84,76,83]]
 9 1]else bif a4 then bif a5 then R (V.slice 9 0 5 false 0 0) [Blk.dead,Blk.dead,Blk.dead,Blk.dead,Blk.dead,Blk.dead,Blk.dead,Blk.dead,Blk.dead,Blk.row [V.str h,
 V.str [83,73,90,69],V.str [83,84,65,82,84,84,76,83],V.str [68,83,78],V.str [56,66,73,84,77,73,77,69]] 9 1]else R (V.slice 7 0 4 false 0 0)
 [Blk.dead,Blk.dead,Blk.dead,Blk.dead,Blk.dead,Blk.dead,Blk.dead,Blk.row [V.str h,V.str [83,73,90,69],V.str [83,84,65,82,84,84,76,83],V.str [68,83,
 78]] 9 1]else bif a5 then R (V.slice 7 0 4 false 0 0) [Blk.dead,Blk.dead,Blk.dead,Blk.dead,Blk.dead,Blk.dead,Blk.dead,Blk.row [V.str h,V.str [83,73,90,69],
 V.str [83,84,65,82,84,84,76,83],V.str [56,66,73,84,77,73,77,69]] 9 1]else R (V.slice 5 0 3 false 0 0) [Blk.dead,Blk.dead,Blk.dead,Blk.dead,Blk.dead,
 Blk.row [V.str h,V.str [83,73,90,69],V.str [83,84,65,82,84,84,76,83]] 9 1]else bif a3 then bif a4 then bif a5 then R (V.slice 9 0 5 false 0 0) [Blk.dead,
 Blk.dead,Blk.dead,Blk.dead,Blk.dead,Blk.dead,Blk.dead,Blk.dead,Blk.dead,Blk.row [V.str h,V.str [83,73,90,69],V.str [82,69,81,85,73,82,69,84,76,83],
 V.str [68,83,78],V.str [56,66,73,84,77,73,77,69]] 9 1]else R (V.slice 7 0 4 false 0 0) [Blk.dead,Blk.dead,Blk.dead,Blk.dead,Blk.dead,Blk.dead,Blk.dead,
 Blk.row [V.str h,V.str [83,73,90,69],V.str [82,69,81,85,73,82,69,84,76,83],V.str [68,83,78]] 9 1]else bif a5 then R (V.slice 7 0 4 false 0 0) [Blk.dead,
 Blk.dead,Blk.dead,Blk.dead,Blk.dead,Blk.dead,Blk.dead,Blk.row [V.str h,V.str [83,73,90,69],V.str [82,69,81,85,73,82,69,84,76,83],V.str [56,66,73,
 84,77,73,77,69]] 9 1]else R (V.slice 5 0 3 false 0 0) [Blk.dead,Blk.dead,Blk.dead,Blk.dead,Blk.dead,Blk.row [V.str h,V.str [83,73,90,69],V.str [82,69,81,
 85,73,82,69,84,76,83]] 9 1]else bif a4 then bif a5 then R (V.slice 7 0 4 false 0 0) [Blk.dead,Blk.dead,Blk.dead,Blk.dead,Blk.dead,Blk.dead,Blk.dead,Blk.row
 [V.str h,V.str [83,73,90,69],V.str [68,83,78],V.str [56,66,73,84,77,73,77,69]] 9 1]else R (V.slice 5 0 3 false 0 0) [Blk.dead,Blk.dead,Blk.dead,
 Blk.dead,Blk.dead,Blk.row [V.str h,V.str [83,73,90,69],V.str [68,83,78]] 9 1]else bif a5 then R (V.slice 5 0 3 false 0 0) [Blk.dead,Blk.dead,Blk.dead,
 Blk.dead,Blk.dead,Blk.row [V.str h,V.str [83,73,90,69],V.str [56,66,73,84,77,73,77,69]] 9 1]else R (V.slice 3 0 2 false 0 0) [Blk.dead,Blk.dead,Blk.dead,
 Blk.row [V.str h,V.str [83,73,90,69]] 9 1]else bif a1 then bif a3 then bif a4 then bif a5 then R (V.slice 9 0 5 false 0 0) [Blk.dead,Blk.dead,Blk.dead,Blk.dead,
 Blk.dead,Blk.dead,Blk.dead,Blk.dead,Blk.dead,Blk.row [V.str h,V.str [83,84,65,82,84,84,76,83],V.str [82,69,81,85,73,82,69,84,76,83],V.str [68,83,
 78],V.str [56,66,73,84,77,73,77,69]] 9 1]else R (V.slice 7 0 4 false 0 0) [Blk.dead,Blk.dead,Blk.dead,Blk.dead,Blk.dead,Blk.dead,Blk.dead,Blk.row [V.str
 h,V.str [83,84,65,82,84,84,76,83],V.str [82,69,81,85,73,82,69,84,76,83],V.str [68,83,78]] 9 1]else bif a5 then R (V.slice 7 0 4 false 0 0)
 [Blk.dead,Blk.dead,Blk.dead,Blk.dead,Blk.dead,Blk.dead,Blk.dead,Blk.row [V.str h,V.str [83,84,65,82,84,84,76,83],V.str [82,69,81,85,73,82,69,84,
 76,83],V.str [56,66,73,84,77,73,77,69]] 9 1]else R (V.slice 5 0 3 false 0 0) [Blk.dead,Blk.dead,Blk.dead,Blk.dead,Blk.dead,Blk.row [V.str h,V.str [83,84,
 65,82,84,84,76,83],V.str [82,69,81,85,73,82,69,84,76,83]] 9 1]else bif a4 then bif a5 then R (V.slice 7 0 4 false 0 0) [Blk.dead,Blk.dead,Blk.dead,
 Blk.dead,Blk.dead,Blk.dead,Blk.dead,Blk.row [V.str h,V.str [83,84,65,82,84,84,76,83],V.str [68,83,78],V.str [56,66,73,84,77,73,77,69]] 9 1]else R
 (V.slice 5 0 3 false 0 0) [Blk.dead,Blk.dead,Blk.dead,Blk.dead,Blk.dead,Blk.row [V.str h,V.str [83,84,65,82,84,84,76,83],V.str [68,83,78]] 9 1]else bif
 a5 then R (V.slice 5 0 3 false 0 0) [Blk.dead,Blk.dead,Blk.dead,Blk.dead,Blk.dead,Blk.row [V.str h,V.str [83,84,65,82,84,84,76,83],V.str [56,66,73,84,
 77,73,77,69]] 9 1]else R (V.slice 3 0 2 false 0 0) [Blk.dead,Blk.dead,Blk.dead,Blk.row [V.str h,V.str [83,84,65,82,84,84,76,83]] 9 1]else bif a3 then bif
 a4 then bif a5 then R (V.slice 7 0 4 false 0 0) [Blk.dead,Blk.dead,Blk.dead,Blk.dead,Blk.dead,Blk.dead,Blk.dead,Blk.row [V.str h,V.str [82,69,81,85,73,82,
 69,84,76,83],V.str [68,83,78],V.str [56,66,73,84,77,73,77,69]] 9 1]else R (V.slice 5 0 3 false 0 0) [Blk.dead,Blk.dead,Blk.dead,Blk.dead,Blk.dead,
 Blk.row [V.str h,V.str [82,69,81,85,73,82,69,84,76,83],V.str [68,83,78]] 9 1]else bif a5 then R (V.slice 5 0 3 false 0 0) [Blk.dead,Blk.dead,Blk.dead,
 Blk.dead,Blk.dead,Blk.row [V.str h,V.str [82,69,81,85,73,82,69,84,76,83],V.str [56,66,73,84,77,73,77,69]] 9 1]else R (V.slice 3 0 2 false 0 0)
 [Blk.dead,Blk.dead,Blk.dead,Blk.row [V.str h,V.str [82,69,81,85,73,82,69,84,76,83]] 9 1]else bif a4 then bif a5 then R (V.slice 5 0 3 false 0 0) [Blk.dead,
 Blk.dead,Blk.dead,Blk.dead,Blk.dead,Blk.row [V.str h,V.str [68,83,78],V.str [56,66,73,84,77,73,77,69]] 9 1]else R (V.slice 3 0 2 false 0 0) [Blk.dead,
 Blk.dead,Blk.dead,Blk.row [V.str h,V.str [68,83,78]] 9 1]else bif a5 then R (V.slice 3 0 2 false 0 0) [Blk.dead,Blk.dead,Blk.dead,Blk.row [V.str h,V.str [56,
 66,73,84,77,73,77,69]] 9 1]else R (V.slice 1 0 1 false 0 0) [Blk.dead,Blk.row [V.str h] 9 1]else bif a6 then bif a1 then bif a3 then bif a4 then bif a5 then R
 (V.slice 11 0 6 false 0 0) [Blk.dead,Blk.dead,Blk.dead,Blk.dead,Blk.dead,Blk.dead,Blk.dead,Blk.dead,Blk.dead,Blk.dead,Blk.dead,Blk.row [V.str h,V.str [83,73,
 90,69],V.str [83,84,65,82,84,84,76,83],V.str [82,69,81,85,73,82,69,84,76,83],V.str [68,83,78],V.str [56,66,73,84,77,73,77,69]] 9 1]else R
 (V.slice 9 0 5 false 0 0) [Blk.dead,Blk.dead,Blk.dead,Blk.dead,Blk.dead,Blk.dead,Blk.dead,Blk.dead,Blk.dead,Blk.row [V.str h,V.str [83,73,90,69],V.str [83,
 84,65,82,84,84,76,83],V.str [82,69,81,85,73,82,69,84,76,83],V.str [68,83,78]] 9 1]else bif a5 then R (V.slice 9 0 5 false 0 0) [Blk.dead,Blk.dead,
 Blk.dead,Blk.dead,Blk.dead,Blk.dead,Blk.dead,Blk.dead,Blk.dead,Blk.row [V.str h,V.str [83,73,90,69],V.str [83,84,65,82,84,84,76,83],V.str [82,69,81,
 85,73,82,69,84,76,83],V.str [56,66,73,84,77,73,77,69]] 9 1]else R (V.slice 7 0 4 false 0 0) [Blk.dead,Blk.dead,Blk.dead,Blk.dead,Blk.dead,Blk.dead,
 Blk.dead,Blk.row [V.str h,V.str [83,73,90,69],V.str [83,84,65,82,84,84,76,83],V.str [82,69,81,85,73,82,69,84,76,83]] 9 1]else bif a4 then bif a5
 then R (V.slice 9 0 5 false 0 0) [Blk.dead,Blk.dead,Blk.dead,Blk.dead,Blk.dead,Blk.dead,Blk.dead,Blk.dead,Blk.dead,Blk.row [V.str h,V.str [83,73,90,69],
 V.str [83,84,65,82,84,84,76,83],V.str [68,83,78],V.str [56,66,73,84,77,73,77,69]] 9 1]else R (V.slice 7 0 4 false 0 0) [Blk.dead,Blk.dead,Blk.dead,
 Blk.dead,Blk.dead,Blk.dead,Blk.dead,Blk.row [V.str h,V.str [83,73,90,69],V.str [83,84,65,82,84,84,76,83],V.str [68,83,78]] 9 1]else bif a5 then R
 (V.slice 7 0 4 false 0 0) [Blk.dead,Blk.dead,Blk.dead,Blk.dead,Blk.dead,Blk.dead,Blk.dead,Blk.row [V.str h,V.str [83,73,90,69],V.str [83,84,65,82,84,84,
 76,83],V.str [56,66,73,84,77,73,77,69]] 9 1]else R (V.slice 5 0 3 false 0 0) [Blk.dead,Blk.dead,Blk.dead,Blk.dead,Blk.dead,Blk.row [V.str h,V.str [83,73,
 90,69],V.str [83,84,65,82,84,84,76,83]] 9 1]else bif a3 then bif a4 then bif a5 then R (V.slice 9 0 5 false 0 0) [Blk.dead,Blk.dead,Blk.dead,Blk.dead,
 Blk.dead,Blk.dead,Blk.dead,Blk.dead,Blk.dead,Blk.row [V.str h,V.str [83,73,90,69],V.str [82,69,81,85,73,82,69,84,76,83],V.str [68,83,78],V.str [56,
 66,73,84,77,73,77,69]] 9 1]else R (V.slice 7 0 4 false 0 0) [Blk.dead,Blk.dead,Blk.dead,Blk.dead,Blk.dead,Blk.dead,Blk.dead,Blk.row [V.str h,V.str [83,73,
 90,69],V.str [82,69,81,85,73,82,69,84,76,83],V.str [68,83,78]] 9 1]else bif a5 then R (V.slice 7 0 4 false 0 0) [Blk.dead,Blk.dead,Blk.dead,Blk.dead,
 Blk.dead,Blk.dead,Blk.dead,Blk.row [V.str h,V.str [83,73,90,69],V.str [82,69,81,85,73,82,69,84,76,83],V.str [56,66,73,84,77,73,77,69]] 9 1]else
 R (V.slice 5 0 3 false 0 0) [Blk.dead,Blk.dead,Blk.dead,Blk.dead,Blk.dead,Blk.row [V.str h,V.str [83,73,90,69],V.str [82,69,81,85,73,82,69,84,76,83]] 9
 1]else bif a4 then bif a5 then R (V.slice 7 0 4 false 0 0) [Blk.dead,Blk.dead,Blk.dead,Blk.dead,Blk.dead,Blk.dead,Blk.dead,Blk.row [V.str h,V.str [83,73,90,
 69],V.str [68,83,78],V.str [56,66,73,84,77,73,77,69]] 9 1]else R (V.slice 5 0 3 false 0 0) [Blk.dead,Blk.dead,Blk.dead,Blk.dead,Blk.dead,Blk.row [V.str
 h,V.str [83,73,90,69],V.str [68,83,78]] 9 1]else bif a5 then R (V.slice 5 0 3 false 0 0) [Blk.dead,Blk.dead,Blk.dead,Blk.dead,Blk.dead,Blk.row [V.str h,
 V.str [83,73,90,69],V.str [56,66,73,84,77,73,77,69]] 9 1]else R (V.slice 3 0 2 false 0 0) [Blk.dead,Blk.dead,Blk.dead,Blk.row [V.str h,V.str [83,73,90,
 69]] 9 1]else bif a1 then bif a3 then bif a4 then bif a5 then R (V.slice 9 0 5 false 0 0) [Blk.dead,Blk.dead,Blk.dead,Blk.dead,Blk.dead,Blk.dead,Blk.dead,
 Blk.dead,Blk.dead,Blk.row [V.str h,V.str [83,84,65,82,84,84,76,83],V.str [82,69,81,85,73,82,69,84,76,83],V.str [68,83,78],V.str [56,66,73,84,
 77,73,77,69]] 9 1]else R (V.slice 7 0 4 false 0 0) [Blk.dead,Blk.dead,Blk.dead,Blk.dead,Blk.dead,Blk.dead,Blk.dead,Blk.row [V.str h,V.str [83,84,65,82,84,
 84,76,83],V.str [82,69,81,85,73,82,69,84,76,83],V.str [68,83,78]] 9 1]else bif a5 then R (V.slice 7 0 4 false 0 0) [Blk.dead,Blk.dead,Blk.dead,
 Blk.dead,Blk.dead,Blk.dead,Blk.dead,Blk.row [V.str h,V.str [83,84,65,82,84,84,76,83],V.str [82,69,81,85,73,82,69,84,76,83],V.str [56,66,73,84,
 77,73,77,69]] 9 1]else R (V.slice 5 0 3 false 0 0) [Blk.dead,Blk.dead,Blk.dead,Blk.dead,Blk.dead,Blk.row [V.str h,V.str [83,84,65,82,84,84,76,83],V.str
 [82,69,81,85,73,82,69,84,76,83]] 9 1]else bif a4 then bif a5 then R (V.slice 7 0 4 false 0 0) [Blk.dead,Blk.dead,Blk.dead,Blk.dead,Blk.dead,Blk.dead,
 Blk.dead,Blk.row [V.str h,V.str [83,84,65,82,84,84,76,83],V.str [68,83,78],V.str [56,66,73,84,77,73,77,69]] 9 1]else R (V.slice 5 0 3 false 0 0)
 [Blk.dead,Blk.dead,Blk.dead,Blk.dead,Blk.dead,Blk.row [V.str h,V.str [83,84,65,82,84,84,76,83],V.str [68,83,78]] 9 1]else bif a5 then R (V.slice 5 0 3
 false 0 0) [Blk.dead,Blk.dead,Blk.dead,Blk.dead,Blk.dead,Blk.row [V.str h,V.str [83,84,65,82,84,84,76,83],V.str [56,66,73,84,77,73,77,69]] 9 1]else
 R (V.slice 3 0 2 false 0 0) [Blk.dead,Blk.dead,Blk.dead,Blk.row [V.str h,V.str [83,84,65,82,84,84,76,83]] 9 1]else bif a3 then bif a4 then bif a5 then R
 (V.slice 7 0 4 false 0 0) [Blk.dead,Blk.dead,Blk.dead,Blk.dead,Blk.dead,Blk.dead,Blk.dead,Blk.row [V.str h,V.str [82,69,81,85,73,82,69,84,76,83],V.str
 [68,83,78],V.str [56,66,73,84,77,73,77,69]] 9 1]else R (V.slice 5 0 3 false 0 0) [Blk.dead,Blk.dead,Blk.dead,Blk.dead,Blk.dead,Blk.row [V.str h,V.str
 [82,69,81,85,73,82,69,84,76,83],V.str [68,83,78]] 9 1]else bif a5 then R (V.slice 5 0 3 false 0 0) [Blk.dead,Blk.dead,Blk.dead,Blk.dead,Blk.dead,Blk.row
 [V.str h,V.str [82,69,81,85,73,82,69,84,76,83],V.str [56,66,73,84,77,73,77,69]] 9 1]else R (V.slice 3 0 2 false 0 0) [Blk.dead,Blk.dead,Blk.dead,
 Blk.row [V.str h,V.str [82,69,81,85,73,82,69,84,76,83]] 9 1]else bif a4 then bif a5 then R (V.slice 5 0 3 false 0 0) [Blk.dead,Blk.dead,Blk.dead,Blk.dead,
 Blk.dead,Blk.row [V.str h,V.str [68,83,78],V.str [56,66,73,84,77,73,77,69]] 9 1]else R (V.slice 3 0 2 false 0 0) [Blk.dead,Blk.dead,Blk.dead,Blk.row
 [V.str h,V.str [68,83,78]] 9 1]else bif a5 then R (V.slice 3 0 2 false 0 0) [Blk.dead,Blk.dead,Blk.dead,Blk.row [V.str h,V.str [56,66,73,84,77,73,77,69]] 9
 1]else R (V.slice 1 0 1 false 0 0) [Blk.dead,Blk.row [V.str h] 9 1]else bif a6 then bif a1 then bif a3 then bif a4 then bif a5 then R (V.slice 11 0 6 false 0 0)
 [Blk.dead,Blk.dead,Blk.dead,Blk.dead,Blk.dead,Blk.dead,Blk.dead,Blk.dead,Blk.dead,Blk.dead,Blk.dead,Blk.row [V.str h,V.str [83,73,90,69],V.str [83,84,
 65,82,84,84,76,83],V.str [82,69,81,85,73,82,69,84,76,83],V.str [68,83,78],V.str [56,66,73,84,77,73,77,69]] 9 1]else R (V.slice 9 0 5 false 0 0)
 [Blk.dead,Blk.dead,Blk.dead,Blk.dead,Blk.dead,Blk.dead,Blk.dead,Blk.dead,Blk.dead,Blk.row [V.str h,V.str [83,73,90,69],V.str [83,84,65,82,84,84,76,
 83],V.str [82,69,81,85,73,82,69,84,76,83],V.str [68,83,78]] 9 1]else bif a5 then R (V.slice 9 0 5 false 0 0) [Blk.dead,Blk.dead,Blk.dead,Blk.dead,
 Blk.dead,Blk.dead,Blk.dead,Blk.dead,Blk.dead,Blk.row [V.str h,V.str [83,73,90,69],V.str [83,84,65,82,84,84,76,83],V.str [82,69,81,85,73,82,69,84,
 76,83],V.str [56,66,73,84,77,73,77,69]] 9 1]else R (V.slice 7 0 4 false 0 0) [Blk.dead,Blk.dead,Blk.dead,Blk.dead,Blk.dead,Blk.dead,Blk.dead,Blk.row
 [V.str h,V.str [83,73,90,69],V.str [83,84,65,82,84,84,76,83],V.str [82,69,81,85,73,82,69,84,76,83]] 9 1]else bif a4 then bif a5 then R (V.slice 9 0
 5 false 0 0) [Blk.dead,Blk.dead,Blk.dead,Blk.dead,Blk.dead,Blk.dead,Blk.dead,Blk.dead,Blk.dead,Blk.row [V.str h,V.str [83,73,90,69],V.str [83,84,65,82,
 84,84,76,83],V.str [68,83,78],V.str [56,66,73,84,77,73,77,69]] 9 1]else R (V.slice 7 0 4 false 0 0) [Blk.dead,Blk.dead,Blk.dead,Blk.dead,Blk.dead,
 Blk.dead,Blk.dead,Blk.row [V.str h,V.str [83,73,90,69],V.str [83,84,65,82,84,84,76,83],V.str [68,83,78]] 9 1]else bif a5 then R (V.slice 7 0 4 false 0
 0) [Blk.dead,Blk.dead,Blk.dead,Blk.dead,Blk.dead,Blk.dead,Blk.dead,Blk.row [V.str h,V.str [83,73,90,69],V.str [83,84,65,82,84,84,76,83],V.str [56,66,
 73,84,77,73,77,69]] 9 1]else R (V.slice 5 0 3 false 0 0) [Blk.dead,Blk.dead,Blk.dead,Blk.dead,Blk.dead,Blk.row [V.str h,V.str [83,73,90,69],V.str [83,84,
 65,82,84,84,76,83]] 9 1]else bif a3 then bif a4 then bif a5 then R (V.slice 9 0 5 false 0 0) [Blk.dead,Blk.dead,Blk.dead,Blk.dead,Blk.dead,Blk.dead,Blk.dead,
 Blk.dead,Blk.dead,Blk.row [V.str h,V.str [83,73,90,69],V.str [82,69,81,85,73,82,69,84,76,83],V.str [68,83,78],V.str [56,66,73,84,77,73,77,69]]
 9 1]else R (V.slice 7 0 4 false 0 0) [Blk.dead,Blk.dead,Blk.dead,Blk.dead,Blk.dead,Blk.dead,Blk.dead,Blk.row [V.str h,V.str [83,73,90,69],V.str [82,69,81,
 85,73,82,69,84,76,83],V.str [68,83,78]] 9 1]else bif a5 then R (V.slice 7 0 4 false 0 0) [Blk.dead,Blk.dead,Blk.dead,Blk.dead,Blk.dead,Blk.dead,Blk.dead,
 Blk.row [V.str h,V.str [83,73,90,69],V.str [82,69,81,85,73,82,69,84,76,83],V.str [56,66,73,84,77,73,77,69]] 9 1]else R (V.slice 5 0 3 false 0 0)
 [Blk.dead,Blk.dead,Blk.dead,Blk.dead,Blk.dead,Blk.row [V.str h,V.str [83,73,90,69],V.str [82,69,81,85,73,82,69,84,76,83]] 9 1]else bif a4 then bif a5
 then R (V.slice 7 0 4 false 0 0) [Blk.dead,Blk.dead,Blk.dead,Blk.dead,Blk.dead,Blk.dead,Blk.dead,Blk.row [V.str h,V.str [83,73,90,69],V.str [68,83,78],
 V.str [56,66,73,84,77,73,77,69]] 9 1]else R (V.slice 5 0 3 false 0 0) [Blk.dead,Blk.dead,Blk.dead,Blk.dead,Blk.dead,Blk.row [V.str h,V.str [83,73,90,69],
 V.str [68,83,78]] 9 1]else bif a5 then R (V.slice 5 0 3 false 0 0) [Blk.dead,Blk.dead,Blk.dead,Blk.dead,Blk.dead,Blk.row [V.str h,V.str [83,73,90,69],V.str
 [56,66,73,84,77,73,77,69]] 9 1]else R (V.slice 3 0 2 false 0 0) [Blk.dead,Blk.dead,Blk.dead,Blk.row [V.str h,V.str [83,73,90,69]] 9 1]else bif a1 then bif
 a3 then bif a4 then bif a5 then R (V.slice 9 0 5 false 0 0) [Blk.dead,Blk.dead,Blk.dead,Blk.dead,Blk.dead,Blk.dead,Blk.dead,Blk.dead,Blk.dead,Blk.row [V.str h,
 V.str [83,84,65,82,84,84,76,83],V.str [82,69,81,85,73,82,69,84,76,83],V.str [68,83,78],V.str [56,66,73,84,77,73,77,69]] 9 1]else R (V.slice 7
 0 4 false 0 0) [Blk.dead,Blk.dead,Blk.dead,Blk.dead,Blk.dead,Blk.dead,Blk.dead,Blk.row [V.str h,V.str [83,84,65,82,84,84,76,83],V.str [82,69,81,85,73,
 82,69,84,76,83],V.str [68,83,78]] 9 1]else bif a5 then R (V.slice 7 0 4 false 0 0) [Blk.dead,Blk.dead,Blk.dead,Blk.dead,Blk.dead,Blk.dead,Blk.dead,Blk.row
 [V.str h,V.str [83,84,65,82,84,84,76,83],V.str [82,69,81,85,73,82,69,84,76,83],V.str [56,66,73,84,77,73,77,69]] 9 1]else R (V.slice 5 0 3 false
 0 0) [Blk.dead,Blk.dead,Blk.dead,Blk.dead,Blk.dead,Blk.row [V.str h,V.str [83,84,65,82,84,84,76,83],V.str [82,69,81,85,73,82,69,84,76,83]] 9 1]
 else bif a4 then bif a5 then R (V.slice 7 0 4 false 0 0) [Blk.dead,Blk.dead,Blk.dead,Blk.dead,Blk.dead,Blk.dead,Blk.dead,Blk.row [V.str h,V.str [83,84,65,82,
 84,84,76,83],V.str [68,83,78],V.str [56,66,73,84,77,73,77,69]] 9 1]else R (V.slice 5 0 3 false 0 0) [Blk.dead,Blk.dead,Blk.dead,Blk.dead,Blk.dead,
 Blk.row [V.str h,V.str [83,84,65,82,84,84,76,83],V.str [68,83,78]] 9 1]else bif a5 then R (V.slice 5 0 3 false 0 0) [Blk.dead,Blk.dead,Blk.dead,Blk.dead,
 Blk.dead,Blk.row [V.str h,V.str [83,84,65,82,84,84,76,83],V.str [56,66,73,84,77,73,77,69]] 9 1]else R (V.slice 3 0 2 false 0 0) [Blk.dead,Blk.dead,
 Blk.dead,Blk.row [V.str h,V.str [83,84,65,82,84,84,76,83]] 9 1]else bif a3 then bif a4 then bif a5 then R (V.slice 7 0 4 false 0 0) [Blk.dead,Blk.dead,
 Blk.dead,Blk.dead,Blk.dead,Blk.dead,Blk.dead,Blk.row [V.str h,V.str [82,69,81,85,73,82,69,84,76,83],V.str [68,83,78],V.str [56,66,73,84,77,73,77,
 69]] 9 1]else R (V.slice 5 0 3 false 0 0) [Blk.dead,Blk.dead,Blk.dead,Blk.dead,Blk.dead,Blk.row [V.str h,V.str [82,69,81,85,73,82,69,84,76,83],V.str [68,
 83,78]] 9 1]else bif a5 then R (V.slice 5 0 3 false 0 0) [Blk.dead,Blk.dead,Blk.dead,Blk.dead,Blk.dead,Blk.row [V.str h,V.str [82,69,81,85,73,82,69,84,76,
 83],V.str [56,66,73,84,77,73,77,69]] 9 1]else R (V.slice 3 0 2 false 0 0) [Blk.dead,Blk.dead,Blk.dead,Blk.row [V.str h,V.str [82,69,81,85,73,82,69,84,
 76,83]] 9 1]else bif a4 then bif a5 then R (V.slice 5 0 3 false 0 0) [Blk.dead,Blk.dead,Blk.dead,Blk.dead,Blk.dead,Blk.row [V.str h,V.str [68,83,78],V.str [56,
 66,73,84,77,73,77,69]] 9 1]else R (V.slice 3 0 2 false 0 0) [Blk.dead,Blk.dead,Blk.dead,Blk.row [V.str h,V.str [68,83,78]] 9 1]else bif a5 then R (V.slice 3
 0 2 false 0 0) [Blk.dead,Blk.dead,Blk.dead,Blk.row [V.str h,V.str [56,66,73,84,77,73,77,69]] 9 1]else R (V.slice 1 0 1 false 0 0) [Blk.dead,Blk.row [V.str h]
 9 1]):=by kernel_rfl
theorem rtx_leaf{h:List UInt8}{a1 a2 a3 a4 a5 a6:Bool}{mo:Int}(z:List UInt8)(hz:z=sizeT mo){st:St}{b n:Nat}(hb:st[b]?=some (.row (strs (h::txR a1 a2 a3 a4 a5 a6 z 0)) 9 1))(hn:n=(h::txR a1 a2 a3 a4 a5 a6 z 0).length):txO h ⟨a1,a2,a3,a4,a5,a6,mo⟩ (V.slice b 0 n false 0 0) st:=by
 subst hz hn;rw[txR_cap]at hb ⊢;exact⟨[b],[V.slice b 0 (h::capW ⟨a1,a2,a3,a4,a5,a6,mo⟩).length false 0 0],rfl,rfl,FitsM.of ⟨fb (strs_flat _) hb,trivial⟩,by simp,fun i hi=>by omega⟩
theorem go_yes{a b:Prop}(h:a):bif true then a else b:=h
theorem go_no{a b:Prop}(h:b):bif false then a else b:=h
theorem rtexts_ok(args:List V)(L:List (Bool×(V×St)))(o:V×St)(h:textsT args=some L)(ho:pickO L=some o):FnSat Tryd.prog 25 args [] (Is o):=by
 unfold textsT at h;split at h
 ·rename_i h a1 a2 a3 a4 a5 a6 mo;cases h;obtain⟨hk,rfl⟩:=pickO_one ho;refine visM_ok (v:=.slice 0 0 (h::capW ⟨a1,a2,a3,a4,a5,a6,mo⟩).length false 0 0) (s:=[.row (strs (h::capW ⟨a1,a2,a3,a4,a5,a6,mo⟩)) 9 1]) (lim:=9) (n:=10) mixed RTU_ok ?_;show runM Tryd.prog (RTU Lib.itoa) 9 10 25 [.str h,.agg [.bool a1,.bool a2,.bool a3,.bool a4,.bool a5,.bool a6,.int .i64 mo]] (fun v st=>txO h ⟨a1,a2,a3,a4,a5,a6,mo⟩ v (vis v st));rw[rtx_tree Lib.itoa h a1 a2 a3 a4 a5 a6 mo (txO h ⟨a1,a2,a3,a4,a5,a6,mo⟩)];have hl:=okL_le (okL_itoa hk);have y1:decide (mo≥1)=true→decide (mo≤1099511627776)=true→wSZ++Lib.itoa mo=sizeT mo:=fun h1 h2=>by
   unfold sizeT;rw[show decide (1≤mo)=true from h1,h2];rfl
  have y2:decide (mo≥1)=true→decide (mo≤1099511627776)=false→wSI=sizeT mo:=fun h1 h2=>by
   unfold sizeT;rw[show decide (1≤mo)=true from h1,h2];rfl
  have y3:decide (mo≥1)=false→wSI=sizeT mo:=fun h1=>by
   unfold sizeT;rw[show decide (1≤mo)=false from h1];rfl
  refine bif_intro (fun e2=>?_) (fun e2=>?_)<;>subst e2
  all_goals
   refine bif_intro (fun e6=>?_) (fun e6=>?_)<;>subst e6
   ·refine bif_intro (fun h1=>bif_intro (fun h2=>must_intro hk (must_intro (Nat.ble_eq_true_of_le (by omega)) ?_)) (fun h2=>?_)) (fun h1=>?_)
    ·refine bif_intro (fun e=>?_) (fun e=>?_)<;>subst e<;>refine bif_intro (fun e=>?_) (fun e=>?_)<;>subst e<;>refine bif_intro (fun e=>?_) (fun e=>?_)<;>subst e<;>refine bif_intro (fun e=>?_) (fun e=>?_)<;>subst e<;>exact rtx_leaf _ (y1 h1 h2) rfl rfl
    ·refine go_yes ?_;refine bif_intro (fun e=>?_) (fun e=>?_)<;>subst e<;>refine bif_intro (fun e=>?_) (fun e=>?_)<;>subst e<;>refine bif_intro (fun e=>?_) (fun e=>?_)<;>subst e<;>refine bif_intro (fun e=>?_) (fun e=>?_)<;>subst e<;>exact rtx_leaf _ (y2 h1 h2) rfl rfl
    ·refine go_yes ?_;refine bif_intro (fun e=>?_) (fun e=>?_)<;>subst e<;>refine bif_intro (fun e=>?_) (fun e=>?_)<;>subst e<;>refine bif_intro (fun e=>?_) (fun e=>?_)<;>subst e<;>refine bif_intro (fun e=>?_) (fun e=>?_)<;>subst e<;>exact rtx_leaf _ (y3 h1) rfl rfl
   ·refine go_no ?_;refine bif_intro (fun e=>?_) (fun e=>?_)<;>subst e<;>refine bif_intro (fun e=>?_) (fun e=>?_)<;>subst e<;>refine bif_intro (fun e=>?_) (fun e=>?_)<;>subst e<;>refine bif_intro (fun e=>?_) (fun e=>?_)<;>subst e<;>exact rtx_leaf _ rfl rfl rfl
 ·cases h
end Go.Proofs.YtmcdajbfomngcaaDoor
namespace Go.Vm
end Go.Vm
namespace Go.Proofs.YtmcdajbfomngcaaDoor
open Go Go.Vm Go.RowKit
set_option linter.unusedVariables false
set_option maxRecDepth 100000
set_option linter.unusedSectionVars false
variable [Φ:Frz]
structure UN where
 c:CP
 m:Nat
 ds:List V
 i:Nat
def unVs(m i:Nat):List V:=[.ptr 0 0,.ptr 1 0,.map 2,.slice 9 1 m false 1 0,.int .i64 (m:Int),.int .i64 (i:Int)]
def unV(x:UN):List V:=unVs x.m x.i
end Go.Proofs.YtmcdajbfomngcaaDoor
namespace Go.Proofs.YtmcdajbfomngcaaDoor
open Go Go.Vm Go.RowKit
set_option linter.unusedVariables false
set_option maxRecDepth 100000
set_option linter.unusedSectionVars false
variable [Φ:Frz]
theorem vs_fits(vs:List V)(h:flatL vs=true)(l:List (Option V))(hl:l=vs.map some)(st:St):Fits 0 vs [] l st:=⟨[],vs,hl,renL_of_flat vs h,FitsM.of trivial,by simp,fun i hi=>by omega⟩
theorem lo_round(x:Value)(n:Nat)(cs:List V)(a i:Int)(R:Exit→List (Option V)→St→Prop):roundW Tryd.prog T3 9 10 (rounds 9) 19 58 [0,3,4] [.lst x n cs,.int .i64 a,.int .i64 i] [] R=
  (
 bif decide (i<(↑n:Int))then bif decide (a<9000)then bif decide (0≤i)&&decide (i<(↑n:Int))then bif (i.toNat*1).blt cs.length then bif isStrV (cs.getD
 (i.toNat*1) (V.bool false))then R Exit.normal [some (V.lst x n cs),some (V.int IntKind.i64 (IntKind.i64.wrap (IntKind.i64.wrap (a+10)+if(↑(strOfV (cs.getD
 (i.toNat*1) (V.bool false))).length:Int)<9000 then(↑(strOfV (cs.getD (i.toNat*1) (V.bool false))).length:Int)else 9000))),some (V.int IntKind.i64
 (IntKind.i64.wrap (i+1)))] []else False else False else False else R (Exit.exit 0) [some (V.lst x n cs),some (V.int IntKind.i64 a),some (V.int IntKind.i64 i)] []
 else R (Exit.exit 0) [some (V.lst x n cs),some (V.int IntKind.i64 a),some (V.int IntKind.i64 i)] []):=by kernel_rfl
def loN:Nat→List (List UInt8)→Nat
 |n,[]=>n
 |n,s::r=>if n<9000 then loN (n+10+min 9000 s.length) r else n
structure LO where
 x:Value
 n:Nat
 cs:List V
 a:Nat
 i:Nat
def loV(q:LO):List V:=[.lst q.x q.n q.cs,.int .i64 q.a,.int .i64 q.i]
def loJ(_:LO):St:=[]
def loPre(q:LO):Bool:=okS q.n q.cs&&(Nat.ble q.i q.n&&Nat.ble q.a 30000)
def loMu(q:LO):Nat:=q.n-q.i
def loDec:List (Option V)→St→Option LO
 |[some (.lst x n cs),some (.int .i64 a),some (.int .i64 0)],_=>some ⟨x,n,cs,a.toNat,0⟩
 |_,_=>none
def loS(a:Nat)(cs:List V):Nat:=loN a (cs.map strOfV)
def loOutG(x:Value)(n:Nat)(cs:List V)(a:Nat)(K:Exit→List V→St→Prop):Prop:=∀j:Nat,K (.exit 0) [.lst x n cs,.int .i64 a,.int .i64 j] []
def loOut:Asks LO:=fun q K=>loOutG q.x q.n q.cs (loS q.a (q.cs.drop q.i)) K
theorem lo_roundOk(q:LO)(hx:loPre q=true):roundW Tryd.prog T3 9 10 (rounds 9) 19 58 [0,3,4] (loV q) (loJ q) (RoundOkA 0 loPre loV loJ loMu loOut q):=by
 obtain⟨x,n,cs,a,i⟩:=q;unfold loPre at hx;simp only[Bool.and_eq_true]at hx;have hx1:okS n cs=true:=hx.1;have p1:i≤n:=Nat.le_of_ble_eq_true hx.2.1;have p0:a≤30000:=Nat.le_of_ble_eq_true hx.2.2;obtain⟨l,rfl,rfl,p2,p3⟩:=okS_spec hx1;show roundW Tryd.prog T3 9 10 (rounds 9) 19 58 [0,3,4] [.lst x l.length (strs l),.int .i64 a,.int .i64 i] [] _;rw[lo_round];have ha:∀b j,loS b ((strs l).drop j)=loN b (l.drop j):=fun b j=>by
  unfold loS;rw[List.map_drop,strs_strOf]
 have out:∀K,loOut ⟨x,l.length,strs l,a,i⟩ K→loOutG x l.length (strs l) (loN a (l.drop i)) K:=fun K hK=>by
  have hK:loOutG x l.length (strs l) (loS a ((strs l).drop i)) K:=hK;rw[ha]at hK;exact hK
 have fin:loN a (l.drop i)=a→RoundOkA 0 loPre loV loJ loMu loOut ⟨x,l.length,strs l,a,i⟩ (.exit 0) [some (.lst x l.length (strs l)),some (.int .i64 a),some (.int .i64 i)] []:=fun h=>by
  refine⟨[.lst x l.length (strs l),.int .i64 a,.int .i64 i],[],fun K hK=>?_,vs_fits _ rfl _ rfl _⟩;have hK:=out K hK;rw[h]at hK;exact hK i
 cases hd:l.drop i with
 |nil=>
  have hi:=dropA_nil hd p1;rw[decide_eq_false (show ¬((i:Int)<(l.length:Int)) by omega),cond_false];exact fin (by rw[hd];rfl)
 |cons c r=>
  obtain⟨e1,e2,e3⟩:=dropA_cons hd;obtain⟨e4,e5⟩:=strs_at hd;rw[decide_eq_true (show((i:Int)<(l.length:Int)) by omega),cond_true];refine bif_intro (fun h=>?_) (fun h=>?_)
  ·have h:=of_decide_eq_true h;have q2:decide ((0:Int)≤(i:Int))=true:=decide_eq_true (by omega);simp only[q2,Int.toNat_natCast,e4,e5,isStrV,strOfV,cond_true,Bool.and_true,show IntKind.i64.wrap ((i:Int)+1)=((i+1:Nat):Int) by rw[IntWalk.i64_in _ ⟨by omega,by omega⟩];omega];have q3:IntKind.i64.wrap (IntKind.i64.wrap ((a:Int)+10)+if(c.length:Int)<9000 then(c.length:Int)else 9000)=((a+10+min 9000 c.length:Nat):Int):=by
    rw[IntWalk.i64_in ((a:Int)+10) ⟨by omega,by omega⟩];split
    ·rw[IntWalk.i64_in _ ⟨by omega,by omega⟩];omega
    ·rw[IntWalk.i64_in _ ⟨by omega,by omega⟩];omega
   rw[q3];refine⟨⟨x,l.length,strs l,a+10+min 9000 c.length,i+1⟩,?_,vs_fits _ rfl _ rfl _,by simp only[loMu];omega,fun K hK=>?_⟩
   ·unfold loPre;simp only[Bool.and_eq_true];exact⟨hx1,Nat.ble_eq_true_of_le (show i+1≤l.length by omega),Nat.ble_eq_true_of_le (show a+10+min 9000 c.length≤30000 by omega)⟩
   ·have hK:=out K hK;show loOutG x l.length (strs l) (loS (a+10+min 9000 c.length) ((strs l).drop (i+1))) K;rw[ha,e2];rw[hd,loN,if_pos (by omega)]at hK;exact hK
  ·have h:=of_decide_eq_false h;exact fin (by rw[hd,loN,if_neg (by omega)])
noncomputable def lkLO:Nat→Trans→Trans:=withLoop 58 (loopA 0 (szOf Tryd.prog 19) [0,3,4] loDec loPre loV loJ loOut) (rounds 9)
theorem lkLO_ok:FnLoopsW Tryd.prog 0 lkLO 19:=by
 unfold lkLO;exact fnLoopW (fnRoundsW 9 0 19) (by kernel_rfl) fun f st Q h=>loopA_ok (P:=Tryd.prog) (T:=T3) (k:=0) (lim:=9) (n:=10) (g:=19) (p0:=58) (lk:=rounds 9) mixed T3_ok (roundsW 9 _ _) loMu lo_roundOk h
noncomputable def LO1:Tab:=⟨noT,noL,addLk (noLks 9) 19 0 lkLO⟩
theorem LO1_ok:TabOk3 Tryd.prog LO1:=⟨noT_ok,noL_ok,addLk_ok (noLks_ok 9) lkLO_ok⟩
theorem lo_tree(x:Value)(n:Nat)(cs:List V)(R:V→Prop):runW Tryd.prog LO1 9 10 19 [.lst x n cs] R=
  (
 Fits 0 [V.lst x n cs,V.int IntKind.i64 0,V.int IntKind.i64 0] [] [some (V.lst x n cs),some (V.int IntKind.i64 0),some (V.int IntKind.i64 0)] []∧bif loPre {x:=x,n:=n,cs:=cs,a:=0,i:=0}
 then ∀(j:Nat),R (V.bool (decide ((↑(loS 0 cs):Int)≥9000)))else False):=by kernel_rfl
def longS(l:List (List UInt8)):Bool:=decide ((loN 0 l:Int)≥9000)
theorem lo_sat(x:Value)(l:List (List UInt8))(h1:l.length≤9223372036854775807):FnSat Tryd.prog 19 [lstS x l] [] (Is (.bool (longS l),[])):=by
 refine pureW_of (lim:=9) (n:=10) mixed LO1_ok rfl rfl ?_;unfold lstS;rw[lo_tree];have hs:loS 0 (strs l)=loN 0 l:=by unfold loS;rw[strs_strOf]
 rw[hs];refine⟨vs_fits _ rfl _ rfl _,must_intro ?_ (fun j=>rfl)⟩;unfold loPre;show(okS l.length (strs l)&&(Nat.ble 0 l.length&&Nat.ble 0 30000))=true;rw[okS_mk h1];rfl
def loOK(p:V)(st:St):Bool:=match viewS st p with
 |some (b,l)=>b&&Nat.ble l.length 9223372036854775807
 |none=>false
def loB(p:V)(st:St):Bool:=match viewS st p with
 |some (_,l)=>longS l
 |none=>false
def loGV(OK LB:V→St→Bool):List V→St→Option (List (Bool×(V×St)))
 |[p],st=>some [(OK p st,(.bool (LB p st),st))]
 |_,_=>none
theorem loG_ok(args:List V)(s:St)(l:List (Bool×(V×St)))(o:V×St)(h:loGV loOK loB args s=some l)(ho:pickO l=some o):FnSat Tryd.prog 19 args s (Is o):=by
 unfold loGV at h;split at h
 ·rename_i p;cases h;obtain⟨hb,rfl⟩:=pickO_one ho;unfold loOK at hb;split at hb
  ·rename_i b ls hv;rw[Bool.and_eq_true]at hb;obtain⟨rfl,h1⟩:=hb;have hL:loB p s=longS ls:=by unfold loB;rw[hv]
   rw[hL];refine frz_sat rfl fun B W0 w m rargs hr ha=>?_;obtain⟨x,r,q1,q2,rfl⟩:=realL_cons ha;have g1:=viewS_ok hr hv q1;have q3:=realL_plain (Ψ:=Frz.of w) (m':=[]) _ _ rfl q2;exact⟨[lstS x ls],@realL_mk _ (Frz.of w) [] _ _ _ _ g1 q3,@lo_sat (Frz.of w) x ls (Nat.le_of_ble_eq_true h1)⟩
  ·cases hb
 ·cases h
end Go.Proofs.YtmcdajbfomngcaaDoor
namespace Go.Vm
end Go.Vm
namespace Go.Proofs.YtmcdajbfomngcaaDoor
open Go Go.Vm Go.RowKit
set_option linter.unusedVariables false
set_option maxRecDepth 100000
set_option linter.unusedSectionVars false
variable [Φ:Frz]
structure TU where
 s:List UInt8
 w:Int
 i:Nat
theorem put_bys{T r:List UInt8}{c c':UInt8}{i:Nat}(hT:T.length=i){v:Int}(hv:v=(c'.toNat:Int)):putAt (0+i*1) [V.int .u8 v] (bys (T++c::r))=bys (T++c'::r):=by
 subst hv hT;unfold putAt;rw[show 0+T.length*1=T.length by omega,bys_append,bys_append];have e:(bys T).length=T.length:=bys_len T;have e1:List.take T.length (bys T++bys (c::r))=bys T:=by rw[←e,List.take_left]
 have e2:List.drop (T.length+1) (bys T++bys (c::r))=bys r:=by
  have h:bys T++bys (c::r)=(bys T++[V.int .u8 (c.toNat:Int)])++bys r:=by rw[List.append_assoc];rfl
  rw[h];exact List.drop_left' (by rw[List.length_append,e];rfl)
 rw[e1,List.length_singleton,e2];rw[List.append_assoc];rfl
end Go.Proofs.YtmcdajbfomngcaaDoor
