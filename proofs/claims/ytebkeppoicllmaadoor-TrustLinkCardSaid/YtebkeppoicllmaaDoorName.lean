/- Names: labels, whether a text is a name, or a pattern: what they come to. -/
import Derived.Test.YtebkeppoicllmaaDoorDFns
namespace Go.Proofs.YtebkeppoicllmaaDoor
open Go.IntKind (u8 u16 u32 u64 i8 i16 i32 i64)
open Go Go.Vm Go.RowKit
set_option linter.unusedVariables false
set_option maxRecDepth 100000
set_option linter.unusedSectionVars false
variable [Φ:Frz]
noncomputable def N0:Tab:=⟨noT,noL,bf 9⟩
theorem N0_ok:TabOk3 Tryd.prog N0:=⟨aL,aM,au 9⟩
theorem lb_round(s:List UInt8)(d:Bool)(i:Int)(R:Exit→List (Option V)→St→Prop):ao Tryd.prog N0 9 10 (ah 9) 50 218 [0,2,3,28,29] [.str s,.bool false,.bool d,.int .i64 s.length,.int .i64 i] [] R=
  (
 bif decide (i<(↑s.length:Int))then bif decide (0≤i)&&i.toNat.blt s.length then bif decide ((↑(s.getD i.toNat 0).toNat:Int)≥48)then bif decide ((↑(s.getD
 i.toNat 0).toNat:Int)≤57)then R .normal [some (.str s),some (.bool false),some (.bool d),some (.int i64 (↑s.length:Int)),some (.int
 i64 (i64.wrap (i+1)))] []else bif decide ((↑(s.getD i.toNat 0).toNat:Int)≥97)then bif decide ((↑(s.getD i.toNat 0).toNat:Int)≤122)then R
 .normal [some (.str s),some (.bool false),some (.bool false),some (.int i64 (↑s.length:Int)),some (.int i64 (i64.wrap (i+1)))] []
 else bif (↑(s.getD i.toNat 0).toNat:Int)==45 then R .normal [some (.str s),some (.bool false),some (.bool false),some (.int i64 (↑s.length:Int)),
 some (.int i64 (i64.wrap (i+1)))] []else R (Exit.goto 0) [some (.str s),some (.bool false),some (.bool d),some (.int i64 (↑s.length:
 Int)),some (.int i64 i)] []else bif (↑(s.getD i.toNat 0).toNat:Int)==45 then R .normal [some (.str s),some (.bool false),some (.bool false),some
 (.int i64 (↑s.length:Int)),some (.int i64 (i64.wrap (i+1)))] []else R (Exit.goto 0) [some (.str s),some (.bool false),some (.bool d),
 some (.int i64 (↑s.length:Int)),some (.int i64 i)] []else bif decide ((↑(s.getD i.toNat 0).toNat:Int)≥97)then bif decide ((↑(s.getD i.toNat
 0).toNat:Int)≤122)then R .normal [some (.str s),some (.bool false),some (.bool false),some (.int i64 (↑s.length:Int)),some (.int i64
 (i64.wrap (i+1)))] []else bif (↑(s.getD i.toNat 0).toNat:Int)==45 then R .normal [some (.str s),some (.bool false),some (.bool false),some (.int
 i64 (↑s.length:Int)),some (.int i64 (i64.wrap (i+1)))] []else R (Exit.goto 0) [some (.str s),some (.bool false),some (.bool d),some
 (.int i64 (↑s.length:Int)),some (.int i64 i)] []else bif (↑(s.getD i.toNat 0).toNat:Int)==45 then R .normal [some (.str s),some (.bool
 false),some (.bool false),some (.int i64 (↑s.length:Int)),some (.int i64 (i64.wrap (i+1)))] []else R (Exit.goto 0) [some (.str s),
 some (.bool false),some (.bool d),some (.int i64 (↑s.length:Int)),some (.int i64 i)] []else False else R (.exit 0) [some (.str s),some
 (.bool false),some (.bool d),some (.int i64 (↑s.length:Int)),some (.int i64 i)] []):=by kernel_rfl
theorem drop_nil{s:List UInt8}{i:Nat}(h:s.drop i=[])(hi:i≤s.length):i=s.length:=by
 have:=congrArg List.length h;simp at this;omega
theorem nH{s r:List UInt8}{i:Nat}{c:UInt8}(h:s.drop i=c::r):s.getD i 0=c∧s.drop (i+1)=r∧i<s.length:=by
 have hl:i<s.length:=by
  have:=congrArg List.length h;simp at this;omega
 rw[List.drop_eq_getElem_cons hl]at h;injection h with h1 h2
 exact⟨by rw[List.getD_eq_getElem?_getD,List.getElem?_eq_getElem hl,Option.getD_some,h1],h2,hl⟩
def fq(b:UInt8):Nat:=if 48≤b.toNat∧b.toNat≤57 then 0 else if(97≤b.toNat∧b.toNat≤122)∨b.toNat=45 then 1 else 2
def fN(s:List UInt8):Bool:=s.all fun b=>Nat.blt (fq b) 2
def dp(s:List UInt8):Bool:=s.all fun b=>Nat.beq (fq b) 0
structure LB where
 s:List UInt8
 d:Bool
 i:Nat
def lbV(x:LB):List V:=[.str x.s,.bool false,.bool x.d,.int .i64 x.s.length,.int .i64 x.i]
def lbJ(_:LB):St:=[]
def ir(x:LB):Bool:=Nat.ble x.i x.s.length&&Nat.ble x.s.length 63
def lbMu(x:LB):Nat:=x.s.length-x.i
def lbDec:List (Option V)→St→Option LB
 |[some (.str s),some (.bool false),some (.bool d),some (.int .i64 _),some (.int .i64 0)],_=>some ⟨s,d,0⟩
 |_,_=>none
def jR(g d:Bool)(s:List UInt8)(K:Exit→List V→St→Prop):Prop:=
 bif g then K (.exit 0) [.str s,.bool false,.bool d,.int .i64 s.length,.int .i64 s.length] []else ∀(e:Bool) (j:Int),K (.goto 0) [.str s,.bool false,.bool e,.int .i64 s.length,.int .i64 j] []
def lbOut:Asks LB:=fun x K=>jR (fN (x.s.drop x.i)) (x.d&&dp (x.s.drop x.i)) x.s K
theorem bD(vs:List V)(h:ax vs=true)(l:List (Option V))(hl:l=vs.map some)(st:St):Fits 0 vs [] l st:=⟨[],vs,hl,av vs h,FitsM.of trivial,by simp,fun i hi=>by omega⟩
theorem lb_roundOk(x:LB)(hx:ir x=true):ao Tryd.prog N0 9 10 (ah 9) 50 218 [0,2,3,28,29] (lbV x) (lbJ x) (aR 0 ir lbV lbJ lbMu lbOut x):=by
 obtain⟨s,d,i⟩:=x;unfold ir at hx;rw[Bool.and_eq_true]at hx;have p1:i≤s.length:=Nat.le_of_ble_eq_true hx.1;have p2:s.length≤63:=Nat.le_of_ble_eq_true hx.2;show ao Tryd.prog N0 9 10 (ah 9) 50 218 [0,2,3,28,29] [.str s,.bool false,.bool d,.int .i64 s.length,.int .i64 i] [] _;rw[lb_round];cases hd:s.drop i with
 |nil=>
  have hi:=drop_nil hd p1;rw[decide_eq_false (show ¬((i:Int)<(s.length:Int)) by omega),cond_false];refine⟨[.str s,.bool false,.bool d,.int .i64 s.length,.int .i64 i],[],fun K hK=>?_,bD _ rfl _ rfl _⟩;have hK:jR (fN (s.drop i)) (d&&dp (s.drop i)) s K:=hK;rw[hd]at hK;simp only[jR,fN,dp,List.all_nil,cond_true,Bool.and_true]at hK;rw[hi];exact hK
 |cons c r=>
  obtain⟨e1,e2,e3⟩:=nH hd;have hc:=c.toNat_lt;rw[decide_eq_true (show((i:Int)<(s.length:Int)) by omega),cond_true];simp only[Int.toNat_natCast,e1];have hm:(decide ((0:Int)≤(i:Int))&&i.blt s.length)=true:=by rw[Bool.and_eq_true];exact⟨decide_eq_true (by omega),Nat.ble_eq_true_of_le e3⟩
  rw[hm,cond_true,show i64.wrap ((i:Int)+1)=((i+1:Nat):Int) by rw[IntWalk.i64_in _ ⟨by omega,by omega⟩];omega];have again:∀b:Bool,fq c<2→(d&&dp (c::r))=(b&&dp r)→aR 0 ir lbV lbJ lbMu lbOut ⟨s,d,i⟩ .normal [some (.str s),some (.bool false),some (.bool b),some (.int .i64 s.length),some (.int .i64 ((i+1:Nat):Int))] []:=by
   intro b h1 h2;refine⟨⟨s,b,i+1⟩,?_,bD _ rfl _ rfl _,by simp only[lbMu];omega,fun K hK=>?_⟩
   ·unfold ir;rw[Bool.and_eq_true];exact⟨Nat.ble_eq_true_of_le (show i+1≤s.length by omega),Nat.ble_eq_true_of_le p2⟩
   ·have hK:jR (fN (s.drop i)) (d&&dp (s.drop i)) s K:=hK;show jR (fN (s.drop (i+1))) (b&&dp (s.drop (i+1))) s K;rw[hd,h2]at hK;rw[e2];have:fN (c::r)=fN r:=by
     have:Nat.blt (fq c) 2=true:=Nat.ble_eq_true_of_le h1;simp only[fN,List.all_cons,this,Bool.true_and]
    rw[this]at hK;exact hK
  have bad:2≤fq c→aR 0 ir lbV lbJ lbMu lbOut ⟨s,d,i⟩ (.goto 0) [some (.str s),some (.bool false),some (.bool d),some (.int .i64 s.length),some (.int .i64 (i:Int))] []:=by
   intro h1;refine⟨[.str s,.bool false,.bool d,.int .i64 s.length,.int .i64 i],[],fun K hK=>?_,bD _ rfl _ rfl _⟩;have hK:jR (fN (s.drop i)) (d&&dp (s.drop i)) s K:=hK;have:fN (c::r)=false:=by
    have:Nat.blt (fq c) 2=false:=by rw[jB];exact decide_eq_false (by omega)
    simp only[fN,List.all_cons,this,Bool.false_and]
   rw[hd,this]at hK;exact hK d i
  have k0:48≤c.toNat→c.toNat≤57→fq c=0:=fun a b=>by unfold fq;rw[if_pos ⟨a,b⟩]
  have k1:¬(48≤c.toNat∧c.toNat≤57)→(97≤c.toNat∧c.toNat≤122)∨c.toNat=45→fq c=1:=fun a b=>by unfold fq;rw[if_neg a,if_pos b]
  have k2:¬(48≤c.toNat∧c.toNat≤57)→¬((97≤c.toNat∧c.toNat≤122)∨c.toNat=45)→fq c=2:=fun a b=>by unfold fq;rw[if_neg a,if_neg b]
  have d0:fq c=0→(d&&dp (c::r))=(d&&dp r):=fun h=>by simp only[dp,List.all_cons,h];rfl
  have d1:fq c=1→(d&&dp (c::r))=(false&&dp r):=fun h=>by simp only[dp,List.all_cons,h];cases d<;>rfl
  repeat' (refine ab (fun h=>?_) (fun h=>?_))
  all_goals simp only[decide_eq_true_eq,decide_eq_false_iff_not,beq_iff_eq,beq_eq_false_iff_ne]at*
  ·have hk:=k0 (by omega) (by omega);exact again d (by omega) (d0 hk)
  ·have hk:=k1 (by omega) (by omega);exact again false (by omega) (d1 hk)
  ·have hk:=k1 (by omega) (by omega);exact again false (by omega) (d1 hk)
  ·exact bad (by rw[k2 (by omega) (by omega)];exact Nat.le_refl _)
  ·have hk:=k1 (by omega) (by omega);exact again false (by omega) (d1 hk)
  ·exact bad (by rw[k2 (by omega) (by omega)];exact Nat.le_refl _)
  ·have hk:=k1 (by omega) (by omega);exact again false (by omega) (d1 hk)
  ·have hk:=k1 (by omega) (by omega);exact again false (by omega) (d1 hk)
  ·exact bad (by rw[k2 (by omega) (by omega)];exact Nat.le_refl _)
  ·have hk:=k1 (by omega) (by omega);exact again false (by omega) (d1 hk)
  ·exact bad (by rw[k2 (by omega) (by omega)];exact Nat.le_refl _)
noncomputable def lk53:Nat→Trans→Trans:=bA 218 (cx 0 (szOf Tryd.prog 50) [0,2,3,28,29] lbDec ir lbV lbJ lbOut) (ah 9)
theorem lk53_ok:aC Tryd.prog 0 lk53 50:=by
 unfold lk53;exact cm (bj 9 0 50) (by kernel_rfl) fun f st Q h=>bN (P:=Tryd.prog) (T:=N0) (k:=0) (lim:=9) (n:=10) (g:=50) (p0:=218) (lk:=ah 9) aH N0_ok (bn 9 _ _) lbMu lb_roundOk h
noncomputable def N1:Tab:=⟨noT,noL,dS (bf 9) 50 0 lk53⟩
theorem N1_ok:TabOk3 Tryd.prog N1:=⟨aL,aM,bT (au 9) lk53_ok⟩
theorem lab_tree(s:List UInt8)(R:V→Prop):runW Tryd.prog N1 9 20 50 [.str s] R=
  (
 bif decide ((↑s.length:Int)<1)then R (.tuple [.bool false,.bool false])else bif decide ((↑s.length:Int)>63)then R (.tuple [.bool false,.bool false])
 else bif true&&Nat.blt 0 s.length then bif (↑(s.getD 0 0).toNat:Int)==45 then R (.tuple [.bool false,.bool false])else bif decide (0≤i64.wrap
 ((↑s.length:Int)-1))&&(i64.wrap ((↑s.length:Int)-1)).toNat.blt s.length then bif (↑(s.getD (i64.wrap ((↑s.length:Int)-1)).toNat 0).toNat:
 Int)==45 then R (.tuple [.bool false,.bool false])else Fits 0 [.str s,.bool false,.bool true,.int i64 (↑s.length:Int),.int i64 0] []
 [some (.str s),some (.bool false),some (.bool true),some (.int i64 (↑s.length:Int)),some (.int i64 0)] []∧bif ir {s:=s,d:=true,i:=0}
 then bif fN (List.drop 0 s)then R (.tuple [.bool true,.bool (true&&dp (List.drop 0 s))])else ∀(e:Bool) (j:Int),R (.tuple [.bool false,.bool
 false])else False else False else False):=by kernel_rfl
theorem cut_tree(s:List UInt8)(R:V→Prop):runW Tryd.prog N0 9 20 51 [.str s,.str [46]] R=
  (
 bif [46]==s then bif Nat.ble 1 s.length&&s.length.ble s.length then R (.tuple [.str (List.take 0 (List.drop 0 s)),.str (List.take (s.length-1) (List.drop 1 s)),
 .bool true])else False else bif decide (Lib.indexByte s 46≥0)then bif decide (0≤Lib.indexByte s 46)then bif true&&(Lib.indexByte s 46).toNat.ble s.length then
 bif decide (0≤i64.wrap (Lib.indexByte s 46+1))then bif (i64.wrap (Lib.indexByte s 46+1)).toNat.ble s.length&&s.length.ble s.length then R
 (.tuple [.str (List.take ((Lib.indexByte s 46).toNat-0) (List.drop 0 s)),.str (List.take (s.length-(i64.wrap (Lib.indexByte s 46+1)).toNat) (List.drop
 (i64.wrap (Lib.indexByte s 46+1)).toNat s)),.bool true])else False else False else False else False else R (.tuple [.str s,.str [],.bool false])):=by kernel_rfl
theorem tp_tree(s:List UInt8)(R:V→Prop):runW Tryd.prog N0 9 20 49 [.str s,.str [42,46]] R=
  (
 bif decide ((↑s.length:Int)≥2)then bif true&&Nat.ble 2 s.length then bif List.take 2 (List.drop 0 s)==[42,46]then bif Nat.ble 2 s.length&&s.length.ble
 s.length then R (.str (List.take (s.length-2) (List.drop 2 s)))else False else R (.str s)else False else R (.str s)):=by kernel_rfl
def gk(s:List UInt8):Bool:=decide (1≤s.length)&&(decide (s.length≤63)&&(!((s.getD 0 0).toNat==45)&&(!((s.getD (s.length-1) 0).toNat==45)&&fN s)))
def labP:List V→Option V
 |[.str s]=>some (.tuple [.bool (gk s),.bool (gk s&&dp s)])
 |_=>none
theorem lab_ok(args:List V)(v:V)(h:labP args=some v):FnSat Tryd.prog 50 args [] (Is (v,[])):=by
 unfold labP at h;split at h
 ·rename_i s;cases h;refine aJ (lim:=9) (n:=20) aH N1_ok rfl rfl ?_;rw[lab_tree];unfold gk;refine ab (fun h=>?_) (fun h=>?_)
  ·have h:=of_decide_eq_true h;rw[decide_eq_false (show ¬1≤s.length by omega)];rfl
  have h:=of_decide_eq_false h;rw[decide_eq_true (show 1≤s.length by omega)];refine ab (fun h1=>?_) (fun h1=>?_)
  ·have h1:=of_decide_eq_true h1;rw[decide_eq_false (show ¬s.length≤63 by omega)];rfl
  have h1:=of_decide_eq_false h1;rw[decide_eq_true (show s.length≤63 by omega)];have e1:i64.wrap ((s.length:Int)-1)=((s.length-1:Nat):Int):=by rw[IntWalk.i64_in _ ⟨by omega,by omega⟩];omega
  have e2:(true&&Nat.blt 0 s.length)=true:=by rw[Bool.true_and];exact Nat.ble_eq_true_of_le (by omega)
  have e3:(decide ((0:Int)≤((s.length-1:Nat):Int))&&(s.length-1).blt s.length)=true:=by rw[Bool.and_eq_true];exact⟨decide_eq_true (by omega),Nat.ble_eq_true_of_le (by omega)⟩
  have c1:∀b:UInt8,((b.toNat:Int)==45)=(b.toNat==45):=fun b=>by
   rw[Bool.eq_iff_iff,beq_iff_eq,beq_iff_eq];omega
  have c2:ir ⟨s,true,0⟩=true:=by unfold ir;rw[Bool.and_eq_true];exact⟨Nat.ble_eq_true_of_le (Nat.zero_le _),Nat.ble_eq_true_of_le (show s.length≤63 by omega)⟩
  simp only[e1,e2,Int.toNat_natCast,e3,cond_true,c1,c2,List.drop_zero,Bool.true_and];refine ab (fun h2=>?_) (fun h2=>?_)
  ·rw[h2];rfl
  refine ab (fun h3=>?_) (fun h3=>?_)
  ·rw[h2,h3];rfl
  refine⟨bD _ rfl _ rfl _,?_⟩;rw[h2,h3];refine ab (fun h4=>?_) (fun h4=>?_)
  ·rw[h4];rfl
  ·intro _ _;rw[h4];rfl
 ·cases h
def cutA:List UInt8→List UInt8×Option (List UInt8)
 |[]=>([],none)
 |c::r=>if c=46 then([],some r)else(c::(cutA r).1,(cutA r).2)
theorem ii:∀s:List UInt8,(Lib.indexByte s 46=-1∧cutA s=(s,none))∨∃o:Nat,Lib.indexByte s 46=o∧o<s.length∧cutA s=(s.take o,some (s.drop (o+1)))
 |[]=>.inl ⟨rfl,rfl⟩
 |c::r=>by
  by_cases hc:c=46
  ·subst hc;exact .inr ⟨0,by simp[Lib.indexByte],by simp,by simp[cutA]⟩
  ·have h1:(c==46)=false:=by simpa using hc
   rcases ii r with⟨h2,h3⟩|⟨o,h2,h3,h4⟩
   ·exact .inl ⟨by simp[Lib.indexByte,h1,h2],by simp[cutA,hc,h3]⟩
   ·refine .inr ⟨o+1,?_,by simp only[List.length_cons];omega,by simp[cutA,hc,h4]⟩;have:(((o:Int))==-1)=false:=by
     cases hq:((o:Int)==-1)with
     |false=>rfl
     |true=>have:=beq_iff_eq.1 hq;omega
    simp[Lib.indexByte,h1,h2,this]
def cutB(s:List UInt8):List UInt8:=(cutA s).1
def cutR(s:List UInt8):List UInt8:=(cutA s).2.getD []
def cutM(s:List UInt8):Bool:=(cutA s).2.isSome
def cutP:List V→Option (List (Bool×(V×St)))
 |[.str s,.str [46]]=>some [(fJ s,(.tuple [.str (cutB s),.str (cutR s),.bool (cutM s)],[]))]
 |_=>none
theorem mh(args:List V)(l:List (Bool×(V×St)))(o:V×St)(h:cutP args=some l)(ho:aP l=some o):FnSat Tryd.prog 51 args [] (Is o):=by
 unfold cutP at h;split at h
 ·rename_i s;cases h;cases hk:fJ s with
  |false=>rw[hk]at ho;cases ho
  |true=>
   rw[hk]at ho;cases ho;have hl:s.length≤1099511627776:=of_decide_eq_true hk;refine aJ (lim:=9) (n:=20) aH N0_ok rfl rfl ?_;rw[cut_tree];unfold cutB cutR cutM;refine ab (fun h1=>?_) (fun h1=>?_)
   ·have h1:[46]=s:=eq_of_beq h1;subst h1;rfl
   ·rcases ii s with⟨h2,h3⟩|⟨o,h2,h3,h4⟩
    ·rw[h2,h3];rfl
    ·rw[h2,h4];have e1:i64.wrap ((o:Int)+1)=((o+1:Nat):Int):=by rw[IntWalk.i64_in _ ⟨by omega,by omega⟩];omega
     simp only[e1,Int.toNat_natCast];refine ab (fun _=>?_) (fun h5=>absurd (of_decide_eq_false h5) (by omega));refine ae (decide_eq_true (by omega)) (ae (by rw[Bool.true_and];exact Nat.ble_eq_true_of_le (by omega)) (ae (decide_eq_true (by omega)) (ae ?_ ?_)))
     ·rw[Bool.and_eq_true];exact⟨Nat.ble_eq_true_of_le (by omega),Nat.ble_eq_true_of_le (Nat.le_refl _)⟩
     ·simp only[Nat.sub_zero,List.drop_zero,Option.getD_some,Option.isSome_some];rw[List.take_of_length_le (l:=s.drop (o+1)) (by rw[List.length_drop];omega)]
 ·cases h
def eC(s:List UInt8):List UInt8:=if s.take 2=[42,46]then s.drop 2 else s
def tpP:List V→Option V
 |[.str s,.str [42,46]]=>some (.str (eC s))
 |_=>none
theorem tp_ok(args:List V)(v:V)(h:tpP args=some v):FnSat Tryd.prog 49 args [] (Is (v,[])):=by
 unfold tpP at h;split at h
 ·rename_i s;cases h;refine aJ (lim:=9) (n:=20) aH N0_ok rfl rfl ?_;rw[tp_tree];unfold eC;refine ab (fun h1=>?_) (fun h1=>?_)
  ·have h1:=of_decide_eq_true h1;have e:(true&&Nat.ble 2 s.length)=true:=by rw[Bool.true_and];exact Nat.ble_eq_true_of_le (by omega)
   rw[e,cond_true,List.drop_zero];refine ab (fun h2=>?_) (fun h2=>?_)
   ·have e2:(Nat.ble 2 s.length&&s.length.ble s.length)=true:=by rw[Bool.and_eq_true];exact⟨Nat.ble_eq_true_of_le (by omega),Nat.ble_eq_true_of_le (Nat.le_refl _)⟩
    rw[e2,cond_true,if_pos (eq_of_beq h2),List.take_of_length_le (by rw[List.length_drop];omega)]
   ·rw[if_neg (fun h3=>by rw[h3]at h2;cases h2)]
  ·have h1:=of_decide_eq_false h1;rw[if_neg];intro h3;have:=congrArg List.length h3;simp at this;omega
 ·cases h
noncomputable def N2:Tab:=⟨addP (addT (addP noT 50 labP) 51 cutP) 49 tpP,noL,bf 9⟩
theorem N2_ok:TabOk3 Tryd.prog N2:=⟨aQ (b8 (aQ aL lab_ok) mh) tp_ok,aM,au 9⟩
end Go.Proofs.YtebkeppoicllmaaDoor
