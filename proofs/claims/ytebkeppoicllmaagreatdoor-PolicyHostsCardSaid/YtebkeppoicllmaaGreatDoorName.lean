/- Names: labels, whether a text is a name, or a pattern: what they come to. -/
import Derived.Test.YtebkeppoicllmaaGreatDoorDFns
namespace Go.Proofs.YtebkeppoicllmaaGreatDoor
open Go.IntKind (u8 u16 u32 u64 i8 i16 i32 i64)
open Go Go.Vm Go.RowKit
set_option linter.unusedVariables false
set_option maxRecDepth 100000
set_option linter.unusedSectionVars false
variable [Φ:Frz]
noncomputable def N0:Tab:=⟨noT,noL,c8 9⟩
theorem N0_ok:TabOk3 Tryz.prog N0:=⟨cp,cr,be 9⟩
theorem lb_round(s:List UInt8)(d:Bool)(i:Int)(R:Exit→List (Option V)→St→Prop):cb Tryz.prog N0 9 10 (aN 9) 178 218 [0,2,3,28,29] [.str s,.bool false,.bool d,.int .i64 s.length,.int .i64 i] [] R=
  (
 bif decide (i<(↑s.length:Int))then bif decide (0≤i)&&i.toNat.blt s.length then bif decide ((↑(s.getD i.toNat 0).toNat:Int)≥48)then bif decide ((↑(s.getD
 i.toNat 0).toNat:Int)≤57)then R .normal [some (.str s),some (.bool false),some (.bool d),some (.int i64 (↑s.length:Int)),some (.int
 i64 (i64.wrap (i+1)))] []else bif decide ((↑(s.getD i.toNat 0).toNat:Int)≥97)then bif decide ((↑(s.getD i.toNat 0).toNat:Int)≤122)then R
 .normal [some (.str s),some (.bool false),some (.bool false),some (.int i64 (↑s.length:Int)),some (.int i64 (i64.wrap (i+1)))] []
 else bif (↑(s.getD i.toNat 0).toNat:Int)==45 then R .normal [some (.str s),some (.bool false),some (.bool false),some (.int i64 (↑s.length:Int)),
 some (.int i64 (i64.wrap (i+1)))] []else R (Exit.goto 0) [some (.str s),some (.bool false),some (.bool d),some (.int i64 (↑s.length:
 Int)),some (.int i64 i)] []else bif (↑(s.getD i.toNat 0).toNat:Int)==45 then R .normal [some (.str s),some (.bool false),some (.bool false),some
 (.int i64 (↑s.length:Int)),some (.int i64 (i64.wrap (i+1)))] []else R (Exit.goto 0) [some (.str s),some (.bool false),some (.bool d),
 some (.int i64 (↑s.length:Int)),some (.int i64 i)] []else bif decide ((↑(s.getD i.toNat 0).toNat:Int)≥97)then bif decide ((↑(s.getD i.toNat
 0).toNat:Int)≤122)then R .normal [some (.str s),some (.bool false),some (.bool false),some (.int i64 (↑s.length:Int)),some (.int i64
 (i64.wrap (i+1)))] []else bif (↑(s.getD i.toNat 0).toNat:Int)==45 then R .normal [some (.str s),some (.bool false),some (.bool false),some (.int
 i64 (↑s.length:Int)),some (.int i64 (i64.wrap (i+1)))] []else R (Exit.goto 0) [some (.str s),some (.bool false),some (.bool d),some
 (.int i64 (↑s.length:Int)),some (.int i64 i)] []else bif (↑(s.getD i.toNat 0).toNat:Int)==45 then R .normal [some (.str s),some (.bool
 false),some (.bool false),some (.int i64 (↑s.length:Int)),some (.int i64 (i64.wrap (i+1)))] []else R (Exit.goto 0) [some (.str s),
 some (.bool false),some (.bool d),some (.int i64 (↑s.length:Int)),some (.int i64 i)] []else False else R (.exit 0) [some (.str s),some
 (.bool false),some (.bool d),some (.int i64 (↑s.length:Int)),some (.int i64 i)] []):=by kernel_rfl
theorem drop_nil{s:List UInt8}{i:Nat}(h:s.drop i=[])(hi:i≤s.length):i=s.length:=by
 have:=congrArg List.length h;simp at this;omega
theorem j9{s r:List UInt8}{i:Nat}{c:UInt8}(h:s.drop i=c::r):s.getD i 0=c∧s.drop (i+1)=r∧i<s.length:=by
 have hl:i<s.length:=by
  have:=congrArg List.length h;simp at this;omega
 rw[List.drop_eq_getElem_cons hl]at h;injection h with h1 h2
 exact⟨by rw[List.getD_eq_getElem?_getD,List.getElem?_eq_getElem hl,Option.getD_some,h1],h2,hl⟩
def dH(b:UInt8):Nat:=if 48≤b.toNat∧b.toNat≤57 then 0 else if(97≤b.toNat∧b.toNat≤122)∨b.toNat=45 then 1 else 2
def dZ(s:List UInt8):Bool:=s.all fun b=>Nat.blt (dH b) 2
def cm(s:List UInt8):Bool:=s.all fun b=>Nat.beq (dH b) 0
structure LB where
 s:List UInt8
 d:Bool
 i:Nat
def lbV(x:LB):List V:=[.str x.s,.bool false,.bool x.d,.int .i64 x.s.length,.int .i64 x.i]
def lbJ(_:LB):St:=[]
def fD(x:LB):Bool:=Nat.ble x.i x.s.length&&Nat.ble x.s.length 63
def lbMu(x:LB):Nat:=x.s.length-x.i
def lbDec:List (Option V)→St→Option LB
 |[some (.str s),some (.bool false),some (.bool d),some (.int .i64 _),some (.int .i64 0)],_=>some ⟨s,d,0⟩
 |_,_=>none
def gS(g d:Bool)(s:List UInt8)(K:Exit→List V→St→Prop):Prop:=
 bif g then K (.exit 0) [.str s,.bool false,.bool d,.int .i64 s.length,.int .i64 s.length] []else ∀(e:Bool) (j:Int),K (.goto 0) [.str s,.bool false,.bool e,.int .i64 s.length,.int .i64 j] []
def lbOut:Asks LB:=fun x K=>gS (dZ (x.s.drop x.i)) (x.d&&cm (x.s.drop x.i)) x.s K
theorem d5(vs:List V)(h:av vs=true)(l:List (Option V))(hl:l=vs.map some)(st:St):Fits 0 vs [] l st:=⟨[],vs,hl,br vs h,FitsM.of trivial,by simp,fun i hi=>by omega⟩
theorem lb_roundOk(x:LB)(hx:fD x=true):cb Tryz.prog N0 9 10 (aN 9) 178 218 [0,2,3,28,29] (lbV x) (lbJ x) (bX 0 fD lbV lbJ lbMu lbOut x):=by
 obtain⟨s,d,i⟩:=x;unfold fD at hx;rw[Bool.and_eq_true]at hx;have p1:i≤s.length:=Nat.le_of_ble_eq_true hx.1;have p2:s.length≤63:=Nat.le_of_ble_eq_true hx.2;show cb Tryz.prog N0 9 10 (aN 9) 178 218 [0,2,3,28,29] [.str s,.bool false,.bool d,.int .i64 s.length,.int .i64 i] [] _;rw[lb_round];cases hd:s.drop i with
 |nil=>
  have hi:=drop_nil hd p1;rw[decide_eq_false (show ¬((i:Int)<(s.length:Int)) by omega),cond_false];refine⟨[.str s,.bool false,.bool d,.int .i64 s.length,.int .i64 i],[],fun K hK=>?_,d5 _ rfl _ rfl _⟩;have hK:gS (dZ (s.drop i)) (d&&cm (s.drop i)) s K:=hK;rw[hd]at hK;simp only[gS,dZ,cm,List.all_nil,cond_true,Bool.and_true]at hK;rw[hi];exact hK
 |cons c r=>
  obtain⟨e1,e2,e3⟩:=j9 hd;have hc:=c.toNat_lt;rw[decide_eq_true (show((i:Int)<(s.length:Int)) by omega),cond_true];simp only[Int.toNat_natCast,e1];have hm:(decide ((0:Int)≤(i:Int))&&i.blt s.length)=true:=by rw[Bool.and_eq_true];exact⟨decide_eq_true (by omega),Nat.ble_eq_true_of_le e3⟩
  rw[hm,cond_true,show i64.wrap ((i:Int)+1)=((i+1:Nat):Int) by rw[IntWalk.i64_in _ ⟨by omega,by omega⟩];omega];have again:∀b:Bool,dH c<2→(d&&cm (c::r))=(b&&cm r)→bX 0 fD lbV lbJ lbMu lbOut ⟨s,d,i⟩ .normal [some (.str s),some (.bool false),some (.bool b),some (.int .i64 s.length),some (.int .i64 ((i+1:Nat):Int))] []:=by
   intro b h1 h2;refine⟨⟨s,b,i+1⟩,?_,d5 _ rfl _ rfl _,by simp only[lbMu];omega,fun K hK=>?_⟩
   ·unfold fD;rw[Bool.and_eq_true];exact⟨Nat.ble_eq_true_of_le (show i+1≤s.length by omega),Nat.ble_eq_true_of_le p2⟩
   ·have hK:gS (dZ (s.drop i)) (d&&cm (s.drop i)) s K:=hK;show gS (dZ (s.drop (i+1))) (b&&cm (s.drop (i+1))) s K;rw[hd,h2]at hK;rw[e2];have:dZ (c::r)=dZ r:=by
     have:Nat.blt (dH c) 2=true:=Nat.ble_eq_true_of_le h1;simp only[dZ,List.all_cons,this,Bool.true_and]
    rw[this]at hK;exact hK
  have bad:2≤dH c→bX 0 fD lbV lbJ lbMu lbOut ⟨s,d,i⟩ (.goto 0) [some (.str s),some (.bool false),some (.bool d),some (.int .i64 s.length),some (.int .i64 (i:Int))] []:=by
   intro h1;refine⟨[.str s,.bool false,.bool d,.int .i64 s.length,.int .i64 i],[],fun K hK=>?_,d5 _ rfl _ rfl _⟩;have hK:gS (dZ (s.drop i)) (d&&cm (s.drop i)) s K:=hK;have:dZ (c::r)=false:=by
    have:Nat.blt (dH c) 2=false:=by rw[blt_dec];exact decide_eq_false (by omega)
    simp only[dZ,List.all_cons,this,Bool.false_and]
   rw[hd,this]at hK;exact hK d i
  have k0:48≤c.toNat→c.toNat≤57→dH c=0:=fun a b=>by unfold dH;rw[if_pos ⟨a,b⟩]
  have k1:¬(48≤c.toNat∧c.toNat≤57)→(97≤c.toNat∧c.toNat≤122)∨c.toNat=45→dH c=1:=fun a b=>by unfold dH;rw[if_neg a,if_pos b]
  have k2:¬(48≤c.toNat∧c.toNat≤57)→¬((97≤c.toNat∧c.toNat≤122)∨c.toNat=45)→dH c=2:=fun a b=>by unfold dH;rw[if_neg a,if_neg b]
  have d0:dH c=0→(d&&cm (c::r))=(d&&cm r):=fun h=>by simp only[cm,List.all_cons,h];rfl
  have d1:dH c=1→(d&&cm (c::r))=(false&&cm r):=fun h=>by simp only[cm,List.all_cons,h];cases d<;>rfl
  repeat' (refine az (fun h=>?_) (fun h=>?_))
  all_goals simp only[decide_eq_true_eq,decide_eq_false_iff_not,beq_iff_eq,beq_eq_false_iff_ne]at*
  ·have hk:=k0 (by omega) (by omega);exact again d (by omega) (d0 hk)
  ·have hk:=k1 (by omega) (by omega);exact again false (by omega) (d1 hk)
  ·have hk:=k1 (by omega) (by omega);exact again false (by omega) (d1 hk)
  ·exact bad (by rw[k2 (by omega) (by omega)];exact Nat.le_refl _)
  ·have hk:=k1 (by omega) (by omega);exact again false (by omega) (d1 hk)
  ·exact bad (by rw[k2 (by omega) (by omega)];exact Nat.le_refl _)
  ·have hk:=k1 (by omega) (by omega);exact again false (by omega) (d1 hk)
  ·have hk:=k1 (by omega) (by omega);exact again false (by omega) (d1 hk)
  ·exact bad (by rw[k2 (by omega) (by omega)];exact Nat.le_refl _)
  ·have hk:=k1 (by omega) (by omega);exact again false (by omega) (d1 hk)
  ·exact bad (by rw[k2 (by omega) (by omega)];exact Nat.le_refl _)
noncomputable def lk53:Nat→Trans→Trans:=dm 218 (i5 0 (szOf Tryz.prog 178) [0,2,3,28,29] lbDec fD lbV lbJ lbOut) (aN 9)
theorem lk53_ok:aX Tryz.prog 0 lk53 178:=by
 unfold lk53;exact iA (dk 9 0 178) (by kernel_rfl) fun f st Q h=>eL (P:=Tryz.prog) (T:=N0) (k:=0) (lim:=9) (n:=10) (g:=178) (p0:=218) (lk:=aN 9) bQ N0_ok (bY 9 _ _) lbMu lb_roundOk h
noncomputable def N1:Tab:=⟨noT,noL,ju (c8 9) 178 0 lk53⟩
theorem N1_ok:TabOk3 Tryz.prog N1:=⟨cp,cr,eY (be 9) lk53_ok⟩
theorem lab_tree(s:List UInt8)(R:V→Prop):runW Tryz.prog N1 9 20 178 [.str s] R=
  (
 bif decide ((↑s.length:Int)<1)then R (.tuple [.bool false,.bool false])else bif decide ((↑s.length:Int)>63)then R (.tuple [.bool false,.bool false])
 else bif true&&Nat.blt 0 s.length then bif (↑(s.getD 0 0).toNat:Int)==45 then R (.tuple [.bool false,.bool false])else bif decide (0≤i64.wrap
 ((↑s.length:Int)-1))&&(i64.wrap ((↑s.length:Int)-1)).toNat.blt s.length then bif (↑(s.getD (i64.wrap ((↑s.length:Int)-1)).toNat 0).toNat:
 Int)==45 then R (.tuple [.bool false,.bool false])else Fits 0 [.str s,.bool false,.bool true,.int i64 (↑s.length:Int),.int i64 0] []
 [some (.str s),some (.bool false),some (.bool true),some (.int i64 (↑s.length:Int)),some (.int i64 0)] []∧bif fD {s:=s,d:=true,i:=0}
 then bif dZ (List.drop 0 s)then R (.tuple [.bool true,.bool (true&&cm (List.drop 0 s))])else ∀(e:Bool) (j:Int),R (.tuple [.bool false,.bool
 false])else False else False else False):=by kernel_rfl
theorem cut_tree(s:List UInt8)(R:V→Prop):runW Tryz.prog N0 9 20 123 [.str s,.str [46]] R=
  (
 bif [46]==s then bif Nat.ble 1 s.length&&s.length.ble s.length then R (.tuple [.str (List.take 0 (List.drop 0 s)),.str (List.take (s.length-1) (List.drop 1 s)),
 .bool true])else False else bif decide (Lib.indexByte s 46≥0)then bif decide (0≤Lib.indexByte s 46)then bif true&&(Lib.indexByte s 46).toNat.ble s.length then
 bif decide (0≤i64.wrap (Lib.indexByte s 46+1))then bif (i64.wrap (Lib.indexByte s 46+1)).toNat.ble s.length&&s.length.ble s.length then R
 (.tuple [.str (List.take ((Lib.indexByte s 46).toNat-0) (List.drop 0 s)),.str (List.take (s.length-(i64.wrap (Lib.indexByte s 46+1)).toNat) (List.drop
 (i64.wrap (Lib.indexByte s 46+1)).toNat s)),.bool true])else False else False else False else False else R (.tuple [.str s,.str [],.bool false])):=by kernel_rfl
theorem tp_tree(s:List UInt8)(R:V→Prop):runW Tryz.prog N0 9 20 177 [.str s,.str [42,46]] R=
  (
 bif decide ((↑s.length:Int)≥2)then bif true&&Nat.ble 2 s.length then bif List.take 2 (List.drop 0 s)==[42,46]then bif Nat.ble 2 s.length&&s.length.ble
 s.length then R (.str (List.take (s.length-2) (List.drop 2 s)))else False else R (.str s)else False else R (.str s)):=by kernel_rfl
def eA(s:List UInt8):Bool:=decide (1≤s.length)&&(decide (s.length≤63)&&(!((s.getD 0 0).toNat==45)&&(!((s.getD (s.length-1) 0).toNat==45)&&dZ s)))
def labP:List V→Option V
 |[.str s]=>some (.tuple [.bool (eA s),.bool (eA s&&cm s)])
 |_=>none
theorem lab_ok(args:List V)(v:V)(h:labP args=some v):FnSat Tryz.prog 178 args [] (Is (v,[])):=by
 unfold labP at h;split at h
 ·rename_i s;cases h;refine ci (lim:=9) (n:=20) bQ N1_ok rfl rfl ?_;rw[lab_tree];unfold eA;refine az (fun h=>?_) (fun h=>?_)
  ·have h:=of_decide_eq_true h;rw[decide_eq_false (show ¬1≤s.length by omega)];rfl
  have h:=of_decide_eq_false h;rw[decide_eq_true (show 1≤s.length by omega)];refine az (fun h1=>?_) (fun h1=>?_)
  ·have h1:=of_decide_eq_true h1;rw[decide_eq_false (show ¬s.length≤63 by omega)];rfl
  have h1:=of_decide_eq_false h1;rw[decide_eq_true (show s.length≤63 by omega)];have e1:i64.wrap ((s.length:Int)-1)=((s.length-1:Nat):Int):=by rw[IntWalk.i64_in _ ⟨by omega,by omega⟩];omega
  have e2:(true&&Nat.blt 0 s.length)=true:=by rw[Bool.true_and];exact Nat.ble_eq_true_of_le (by omega)
  have e3:(decide ((0:Int)≤((s.length-1:Nat):Int))&&(s.length-1).blt s.length)=true:=by rw[Bool.and_eq_true];exact⟨decide_eq_true (by omega),Nat.ble_eq_true_of_le (by omega)⟩
  have c1:∀b:UInt8,((b.toNat:Int)==45)=(b.toNat==45):=fun b=>by
   rw[Bool.eq_iff_iff,beq_iff_eq,beq_iff_eq];omega
  have c2:fD ⟨s,true,0⟩=true:=by unfold fD;rw[Bool.and_eq_true];exact⟨Nat.ble_eq_true_of_le (Nat.zero_le _),Nat.ble_eq_true_of_le (show s.length≤63 by omega)⟩
  simp only[e1,e2,Int.toNat_natCast,e3,cond_true,c1,c2,List.drop_zero,Bool.true_and];refine az (fun h2=>?_) (fun h2=>?_)
  ·rw[h2];rfl
  refine az (fun h3=>?_) (fun h3=>?_)
  ·rw[h2,h3];rfl
  refine⟨d5 _ rfl _ rfl _,?_⟩;rw[h2,h3];refine az (fun h4=>?_) (fun h4=>?_)
  ·rw[h4];rfl
  ·intro _ _;rw[h4];rfl
 ·cases h
def cutA:List UInt8→List UInt8×Option (List UInt8)
 |[]=>([],none)
 |c::r=>if c=46 then([],some r)else(c::(cutA r).1,(cutA r).2)
theorem fq:∀s:List UInt8,(Lib.indexByte s 46=-1∧cutA s=(s,none))∨∃o:Nat,Lib.indexByte s 46=o∧o<s.length∧cutA s=(s.take o,some (s.drop (o+1)))
 |[]=>.inl ⟨rfl,rfl⟩
 |c::r=>by
  by_cases hc:c=46
  ·subst hc;exact .inr ⟨0,by simp[Lib.indexByte],by simp,by simp[cutA]⟩
  ·have h1:(c==46)=false:=by simpa using hc
   rcases fq r with⟨h2,h3⟩|⟨o,h2,h3,h4⟩
   ·exact .inl ⟨by simp[Lib.indexByte,h1,h2],by simp[cutA,hc,h3]⟩
   ·refine .inr ⟨o+1,?_,by simp only[List.length_cons];omega,by simp[cutA,hc,h4]⟩;have:(((o:Int))==-1)=false:=by
     cases hq:((o:Int)==-1)with
     |false=>rfl
     |true=>have:=beq_iff_eq.1 hq;omega
    simp[Lib.indexByte,h1,h2,this]
def cutB(s:List UInt8):List UInt8:=(cutA s).1
def cutR(s:List UInt8):List UInt8:=(cutA s).2.getD []
def cutM(s:List UInt8):Bool:=(cutA s).2.isSome
def cutP:List V→Option (List (Bool×(V×St)))
 |[.str s,.str [46]]=>some [(fB s,(.tuple [.str (cutB s),.str (cutR s),.bool (cutM s)],[]))]
 |_=>none
theorem cut_ok(args:List V)(l:List (Bool×(V×St)))(o:V×St)(h:cutP args=some l)(ho:a9 l=some o):FnSat Tryz.prog 123 args [] (Is o):=by
 unfold cutP at h;split at h
 ·rename_i s;cases h;cases hk:fB s with
  |false=>rw[hk]at ho;cases ho
  |true=>
   rw[hk]at ho;cases ho;have hl:s.length≤1099511627776:=of_decide_eq_true hk;refine ci (lim:=9) (n:=20) bQ N0_ok rfl rfl ?_;rw[cut_tree];unfold cutB cutR cutM;refine az (fun h1=>?_) (fun h1=>?_)
   ·have h1:[46]=s:=eq_of_beq h1;subst h1;rfl
   ·rcases fq s with⟨h2,h3⟩|⟨o,h2,h3,h4⟩
    ·rw[h2,h3];rfl
    ·rw[h2,h4];have e1:i64.wrap ((o:Int)+1)=((o+1:Nat):Int):=by rw[IntWalk.i64_in _ ⟨by omega,by omega⟩];omega
     simp only[e1,Int.toNat_natCast];refine az (fun _=>?_) (fun h5=>absurd (of_decide_eq_false h5) (by omega));refine bf (decide_eq_true (by omega)) (bf (by rw[Bool.true_and];exact Nat.ble_eq_true_of_le (by omega)) (bf (decide_eq_true (by omega)) (bf ?_ ?_)))
     ·rw[Bool.and_eq_true];exact⟨Nat.ble_eq_true_of_le (by omega),Nat.ble_eq_true_of_le (Nat.le_refl _)⟩
     ·simp only[Nat.sub_zero,List.drop_zero,Option.getD_some,Option.isSome_some];rw[List.take_of_length_le (l:=s.drop (o+1)) (by rw[List.length_drop];omega)]
 ·cases h
def fH(s:List UInt8):List UInt8:=if s.take 2=[42,46]then s.drop 2 else s
def tpP:List V→Option V
 |[.str s,.str [42,46]]=>some (.str (fH s))
 |_=>none
theorem tp_ok(args:List V)(v:V)(h:tpP args=some v):FnSat Tryz.prog 177 args [] (Is (v,[])):=by
 unfold tpP at h;split at h
 ·rename_i s;cases h;refine ci (lim:=9) (n:=20) bQ N0_ok rfl rfl ?_;rw[tp_tree];unfold fH;refine az (fun h1=>?_) (fun h1=>?_)
  ·have h1:=of_decide_eq_true h1;have e:(true&&Nat.ble 2 s.length)=true:=by rw[Bool.true_and];exact Nat.ble_eq_true_of_le (by omega)
   rw[e,cond_true,List.drop_zero];refine az (fun h2=>?_) (fun h2=>?_)
   ·have e2:(Nat.ble 2 s.length&&s.length.ble s.length)=true:=by rw[Bool.and_eq_true];exact⟨Nat.ble_eq_true_of_le (by omega),Nat.ble_eq_true_of_le (Nat.le_refl _)⟩
    rw[e2,cond_true,if_pos (eq_of_beq h2),List.take_of_length_le (by rw[List.length_drop];omega)]
   ·rw[if_neg (fun h3=>by rw[h3]at h2;cases h2)]
  ·have h1:=of_decide_eq_false h1;rw[if_neg];intro h3;have:=congrArg List.length h3;simp at this;omega
 ·cases h
noncomputable def N2:Tab:=⟨addP (addT (addP noT 178 labP) 123 cutP) 177 tpP,noL,c8 9⟩
theorem N2_ok:TabOk3 Tryz.prog N2:=⟨b9 (gE (b9 cp lab_ok) cut_ok) tp_ok,cr,be 9⟩
end Go.Proofs.YtebkeppoicllmaaGreatDoor
