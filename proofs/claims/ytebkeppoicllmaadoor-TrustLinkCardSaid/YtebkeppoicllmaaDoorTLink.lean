/- TrustLink: what it comes to. -/
import Derived.Test.YtebkeppoicllmaaDoorJudgeG
import Derived.Test.YtebkeppoicllmaaDoorEncG
import Derived.Test.YtebkeppoicllmaaDoorAwake15
namespace Go.Proofs.YtebkeppoicllmaaDoor
open Go.IntKind (u8 u16 u32 u64 i8 i16 i32 i64)
open Go Go.Vm Go.RowKit
set_option linter.unusedVariables false
set_option maxRecDepth 100000
set_option linter.unusedSectionVars false
variable [Φ:Frz]
def caseK(v:Int):List Int→(Int→Prop)→Prop
 |[],_=>False
 |c::r,K=>bif v==c then K c else caseK v r K
theorem caseK_ok{v:Int}{K:Int→Prop}:∀{l:List Int},caseK v l K→∃c,v=c∧K c
 |[],h=>h.elim
 |c::r,h=>by
  unfold caseK at h;rcases ak h with⟨h1,h2⟩|⟨_,h2⟩
  ·exact⟨c,beq_iff_eq.1 h1,h2⟩
  ·exact caseK_ok h2
def gS(p0 t:Nat)(cs:List Int)(lk:Nat→Trans→Trans):Nat→Trans→Trans:=fun p body f st Q=>bif Nat.beq p p0 then(match f.T.get t with
 |some (.int .i64 v)=>caseK v cs (fun c=>lk p body ⟨f.sz,f.T.put t (.int .i64 c),f.defs⟩ st Q)
 |_=>lk p body f st Q)else lk p body f st Q
section
variable {P:Program} {ro:Option Nat} {k:Nat}
theorem ci{p0 t:Nat}{cs:List Int}{lk:Nat→Trans→Trans}:∀(c:Code) (p:Nat),cG P ro k lk p c→cG P ro k (gS p0 t cs lk) p c
 |.seq a b,p,h=>⟨ci a _ h.1,ci b _ h.2⟩
 |.cond _ a b,p,h=>⟨ci a _ h.1,ci b _ h.2⟩
 |.block _ c,p,h=>ci c _ h
 |.scope c,p,h=>ci c _ h
 |.loop c,p,h=>by
  refine⟨ci c _ h.1,fun body hb f st Q hq=>?_⟩;unfold gS at hq;rcases ak hq with⟨_,hq⟩|⟨_,hq⟩
  ·split at hq
   ·rename_i v hv;obtain⟨c',rfl,hq⟩:=caseK_ok hq;refine(h.2 body hb _ _ Q hq).less ?_;intro mm a hA;refine⟨⟨hA.tmps.1,fun i v' hv'=>?_⟩,hA.defers⟩;rcases Tr.get_put hv' with⟨rfl,rfl⟩|⟨_,hv'⟩
    ·exact hA.tmps.2 _ _ hv
    ·exact hA.tmps.2 _ _ hv'
   ·exact h.2 body hb f st Q hq
  ·exact h.2 body hb f st Q hq
 |.skip,_,_|.label _,_,_|.ret,_,_|.exit _,_,_|.region ..,_,_|.rangeFunc ..,_,_|.goto _,_,_|.refuse _,_,_=>trivial
theorem fnCases{g:FuncId}{p0 t:Nat}{cs:List Int}{lk:Nat→Trans→Trans}(hl:aC P k lk g):aC P k (gS p0 t cs lk) g:=by
 unfold aC at hl ⊢;split at hl
 ·rename_i fn hf;split at hl
  ·rename_i c hb;exact ci c 1 hl
  ·trivial
 ·trivial
end
noncomputable def lkTL:Nat→Trans→Trans:=gS 506 9 [1,2,3,4] (ah 9)
theorem lkTL_ok:aC Tryd.prog 0 lkTL 3:=fnCases (bj 9 0 _)
def digV(DG:List UInt8→List UInt8):List V→Option V
 |[.str k]=>some (.str (DG k))
 |_=>none
theorem digV_ok(args:List V)(v:V)(h:digV digB args=some v):FnSat Tryd.prog 6 args [] (Is (v,[])):=by
 unfold digV at h;split at h
 ·rename_i k;exact dig_ok [.str k] v h
 ·cases h
def encX(EB:CR→List UInt8)(EE:CR→Int):List V→St→Option (List (Bool×(V×St)))
 |[.agg [.str k,.str g,p,.int .i64 f,.int .i64 u,.bool ca]],st=>match cC st p with
  |some (true,l)=>some [(Nat.ble l.length 9223372036854775807,(.tuple [.str (EB ⟨k,g,l,f,u,ca⟩),.int .i64 (EE ⟨k,g,l,f,u,ca⟩)],st))]
  |_=>none
 |_,_=>none
def eB(c:CR):List UInt8:=encB c.k c.g c.l c.f c.u c.ca
def eE(c:CR):Int:=encE c.k c.g c.l c.f c.u c.ca
theorem encX_ok(args:List V)(s:St)(l:List (Bool×(V×St)))(o:V×St)(h:encX eB eE args s=some l)(ho:aP l=some o):FnSat Tryd.prog 18 args s (Is o):=by
 unfold encX at h;split at h
 ·rename_i k g p f u ca;split at h
  ·rename_i ls hv;cases h;exact encG_ok [.agg [.str k,.str g,p,.int .i64 f,.int .i64 u,.bool ca]] s _ o (by simp only[encG,hv];rfl) (by rw[Bool.true_and];exact ho)
  ·cases h
 ·cases h
def lnkX(LB:List CR→Bool):List V→St→Option (List (Bool×(V×St)))
 |[p],st=>match mL st p with
  |some (true,l)=>some [(Nat.ble l.length 9223372036854775807,(.bool (LB l),st))]
  |_=>none
 |_,_=>none
theorem lnkX_ok(args:List V)(s:St)(l:List (Bool×(V×St)))(o:V×St)(h:lnkX bw args s=some l)(ho:aP l=some o):FnSat Tryd.prog 7 args s (Is o):=by
 unfold lnkX at h;split at h
 ·rename_i p;split at h
  ·rename_i ls hv;cases h;exact linkG_ok [p] s _ o (by simp only[linkG,hv];rfl) (by rw[Bool.true_and];exact ho)
  ·cases h
 ·cases h
def ancX(AB:Int→List (List UInt8)→List CR→Bool):List V→St→Option (List (Bool×(V×St)))
 |[p,.int .i64 now,q],st=>match mL st p,cC st q with
  |some (true,l),some (true,an)=>some [(Nat.ble l.length 9223372036854775807&&Nat.ble an.length 9223372036854775807,(.bool (AB now an l),st))]
  |_,_=>none
 |_,_=>none
def anB(now:Int)(an:List (List UInt8))(l:List CR):Bool:=aX now an none l
theorem ancX_ok(args:List V)(s:St)(l:List (Bool×(V×St)))(o:V×St)(h:ancX anB args s=some l)(ho:aP l=some o):FnSat Tryd.prog 8 args s (Is o):=by
 unfold ancX at h;split at h
 ·rename_i p now q;split at h
  ·rename_i ls an hv hw;cases h;exact anG_ok [p,.int .i64 now,q] s _ o (by simp only[anG,hv,hw];rfl) (by rw[Bool.true_and,Bool.true_and];exact ho)
  ·cases h
 ·cases h
def jdgX(JV:List (List UInt8)→List UInt8→Int→List (List UInt8)→Int):List V→St→Option (List (Bool×(V×St)))
 |[p,.str h,.int .i64 now,q],st=>match cC st p,cC st q with
  |some (true,l),some (true,an)=>some [(Nat.ble l.length 9223372036854775807&&Nat.ble an.length 9223372036854775807,(.int .u8 (JV l h now an),st))]
  |_,_=>none
 |_,_=>none
def jgV(l:List (List UInt8))(h:List UInt8)(now:Int)(an:List (List UInt8)):Int:=dO h now an (fH l)
theorem jdgX_ok(args:List V)(s:St)(l:List (Bool×(V×St)))(o:V×St)(h:jdgX jgV args s=some l)(ho:aP l=some o):FnSat Tryd.prog 9 args s (Is o):=by
 unfold jdgX at h;split at h
 ·rename_i p hh now q;split at h
  ·rename_i ls an hv hw;cases h;exact judgeG_ok [p,.str hh,.int .i64 now,q] s _ o rfl (by unfold jOK jV;rw[hv,hw];exact ho)
  ·cases h
 ·cases h
noncomputable def TLN(DG:List UInt8→List UInt8)(EB:CR→List UInt8)(EE:CR→Int)(LB:List CR→Bool)(AB:Int→List (List UInt8)→List CR→Bool)(JV:List (List UInt8)→List UInt8→Int→List (List UInt8)→Int):Tab:=
 ⟨addP (addP noT 4 awakeF) 6 (digV DG),
 addS (addS (addS (addS noL 18 (encX EB EE)) 7 (lnkX LB)) 8 (ancX AB)) 9 (jdgX JV),
 dS (bf 9) 3 0 lkTL⟩
@[reducible] def lzX:LstFlag:=⟨false,true⟩
theorem TLN_ok:TabOk3 Tryd.prog (TLN digB eB eE bw anB jgV):=⟨aQ (aQ aL awakeF_ok) digV_ok,cQ (cQ (cQ (cQ aM encX_ok) lnkX_ok) ancX_ok) jdgX_ok,bT (au 9) lkTL_ok⟩
theorem tl_law(DG:List UInt8→List UInt8)(EB:CR→List UInt8)(EE:CR→Int)(LB:List CR→Bool)(AB:Int→List (List UInt8)→List CR→Bool)(JV:List (List UInt8)→List UInt8→Int→List (List UInt8)→Int)(many which how:Int)(bY:List UInt8)(R:V→Prop):runW (Z:=lzX) Tryd.prog (TLN DG EB EE LB AB JV) 9 10 3 [.int .i64 many,.int .i64 which,.int .u8 how,.str bY] R=
  (
 bif decide ((↑bY.length:Int)>5000)then R (.bool true)else bif i64.wrap (1+i64.wrap ((u64.wrap many).tmod 4))==1 then bif !LB [{k:=[97],g:=DG [114,111,111,116],l:=[[120,46,121]],f:=10,u:=20,ca:=false}]
 then R (.bool false)else bif !AB 15 [DG [114,111,111,116]] [{k:=[97],g:=DG [114,111,111,116],l:=[[120,46,121]],f:=10,u:=20,ca:=false}]then R
 (.bool false)else bif JV [EB {k:=[97],g:=DG [114,111,111,116],l:=[[120,46,121]],f:=10,u:=20,ca:=false}] [120,46,121] 15 [DG [114,111,111,
 116]]!=0 then R (.bool false)else bif how.tmod 3==0 then bif decide (0≤i64.wrap ((u64.wrap which).tmod 1))&&decide (i64.wrap
 ((u64.wrap which).tmod 1)<1)then bif i64.wrap ((u64.wrap which).tmod 1)==0 then bif bY==DG [114,111,111,116]then R (.bool true)else
 bif bY==DG [114,111,111,116]then R (.bool true)else bif decide (0≤i64.wrap ((u64.wrap which).tmod 1))&&decide (i64.wrap
 ((u64.wrap which).tmod 1)<1)then bif i64.wrap ((u64.wrap which).tmod 1)==0 then bif !AB 15 [DG [114,111,111,116]] [{k:=[97],g:=bY,l:=[[120,46,121]],f:=10,u:=20,ca:=false}]
 then R (.bool (JV [EB {k:=[97],g:=bY,l:=[[120,46,121]],f:=10,u:=20,ca:=false}] [120,46,121] 15 [DG [114,111,111,116]]!=0))else R (.bool
 false)else False else False else False else False else bif how.tmod 3==1 then bif decide (0≤i64.wrap ((u64.wrap which).tmod 1))&&decide
 (i64.wrap ((u64.wrap which).tmod 1)<1)then bif i64.wrap ((u64.wrap which).tmod 1)==0 then bif i64.wrap ((u64.wrap
 which).tmod 1)==0 then R (.bool (AB 15 [DG [114,111,111,116]] [{k:=[97],g:=DG [114,111,111,116],l:=[[120,46,121]],f:=10,u:=20,ca:=false}]))
 else bif !AB 15 [DG [114,111,111,116]] [{k:=[97],g:=DG [114,111,111,116],l:=[[120,46,121]],f:=10,u:=20,ca:=false}]then R (.bool (JV [EB {k:=[97],g:=DG [114,111,111,116],l:=[[120,46,121]],f:=10,u:=20,ca:=false}]
 [120,46,121] 15 [DG [114,111,111,116]]!=0))else R (.bool false)else False else False else bif decide (0≤i64.wrap ((u64.wrap which).tmod 1))&&
 decide (i64.wrap ((u64.wrap which).tmod 1)<1)then bif i64.wrap ((u64.wrap which).tmod 1)==0 then bif !AB 15 [DG [114,111,111,116]]
 [{k:=[97],g:=DG [114,111,111,116],l:=[[120,46,121]],f:=10,u:=14,ca:=false}]then R (.bool (JV [EB {k:=[97],g:=DG [114,111,111,116],l:=[[120,46,121]],f:=10,u:=14,ca:=false}]
 [120,46,121] 15 [DG [114,111,111,116]]!=0))else R (.bool false)else False else False else bif i64.wrap (1+i64.wrap ((u64.wrap
 many).tmod 4))==2 then bif !LB [{k:=[97],g:=DG [98],l:=[[120,46,121]],f:=10,u:=20,ca:=false},{k:=[98],g:=DG [114,111,111,116],l:=[[120,46,121]],f:=10,u:=20,ca:=true}]
 then R (.bool false)else bif !AB 15 [DG [114,111,111,116]] [{k:=[97],g:=DG [98],l:=[[120,46,121]],f:=10,u:=20,ca:=false},{k:=[98],g:=DG [114,111,111,116],l:=[[120,46,121]],f:=10,u:=20,ca:=true}]
 then R (.bool false)else bif JV [EB {k:=[97],g:=DG [98],l:=[[120,46,121]],f:=10,u:=20,ca:=false},EB {k:=[98],g:=DG [114,111,111,116],l:=[[120,46,121]],f:=10,u:=20,ca:=true}]
 [120,46,121] 15 [DG [114,111,111,116]]!=0 then R (.bool false)else bif how.tmod 3==0 then bif decide (0≤i64.wrap ((u64.wrap which).tmod 2))
 &&decide (i64.wrap ((u64.wrap which).tmod 2)<2)then bif i64.wrap ((u64.wrap which).tmod 2)==0 then bif bY==DG [98]then R (.bool
 true)else bif bY==DG [114,111,111,116]then R (.bool true)else bif decide (0≤i64.wrap ((u64.wrap which).tmod 2))&&decide (i64.wrap
 ((u64.wrap which).tmod 2)<2)then bif i64.wrap ((u64.wrap which).tmod 2)==0 then bif !AB 15 [DG [114,111,111,116]] [{k:=[97],g:=bY,l:=[[120,46,121]],f:=10,u:=20,ca:=false},
 {k:=[98],g:=DG [114,111,111,116],l:=[[120,46,121]],f:=10,u:=20,ca:=true}]then R (.bool (JV [EB {k:=[97],g:=bY,l:=[[120,46,121]],f:=10,u:=20,ca:=false},
 EB {k:=[98],g:=DG [114,111,111,116],l:=[[120,46,121]],f:=10,u:=20,ca:=true}] [120,46,121] 15 [DG [114,111,111,116]]!=0))else R (.bool
 false)else bif i64.wrap ((u64.wrap which).tmod 2)==1 then bif !AB 15 [DG [114,111,111,116]] [{k:=[97],g:=DG [98],l:=[[120,46,121]],f:=10,u:=20,ca:=false},
 {k:=[98],g:=bY,l:=[[120,46,121]],f:=10,u:=20,ca:=true}]then R (.bool (JV [EB {k:=[97],g:=DG [98],l:=[[120,46,121]],f:=10,u:=20,ca:=false},
 EB {k:=[98],g:=bY,l:=[[120,46,121]],f:=10,u:=20,ca:=true}] [120,46,121] 15 [DG [114,111,111,116]]!=0))else R (.bool false)else False else
 False else bif i64.wrap ((u64.wrap which).tmod 2)==1 then bif bY==DG [114,111,111,116]then R (.bool true)else bif bY==DG [114,111,111,116]
 then R (.bool true)else bif decide (0≤i64.wrap ((u64.wrap which).tmod 2))&&decide (i64.wrap ((u64.wrap which).tmod 2)<2)then bif
 i64.wrap ((u64.wrap which).tmod 2)==0 then bif !AB 15 [DG [114,111,111,116]] [{k:=[97],g:=bY,l:=[[120,46,121]],f:=10,u:=20,ca:=false},
 {k:=[98],g:=DG [114,111,111,116],l:=[[120,46,121]],f:=10,u:=20,ca:=true}]then R (.bool (JV [EB {k:=[97],g:=bY,l:=[[120,46,121]],f:=10,u:=20,ca:=false},
 EB {k:=[98],g:=DG [114,111,111,116],l:=[[120,46,121]],f:=10,u:=20,ca:=true}] [120,46,121] 15 [DG [114,111,111,116]]!=0))else R (.bool
 false)else bif i64.wrap ((u64.wrap which).tmod 2)==1 then bif !AB 15 [DG [114,111,111,116]] [{k:=[97],g:=DG [98],l:=[[120,46,121]],f:=10,u:=20,ca:=false},
 {k:=[98],g:=bY,l:=[[120,46,121]],f:=10,u:=20,ca:=true}]then R (.bool (JV [EB {k:=[97],g:=DG [98],l:=[[120,46,121]],f:=10,u:=20,ca:=false},
 EB {k:=[98],g:=bY,l:=[[120,46,121]],f:=10,u:=20,ca:=true}] [120,46,121] 15 [DG [114,111,111,116]]!=0))else R (.bool false)else False else
 False else False else False else bif how.tmod 3==1 then bif decide (0≤i64.wrap ((u64.wrap which).tmod 2))&&decide (i64.wrap
 ((u64.wrap which).tmod 2)<2)then bif i64.wrap ((u64.wrap which).tmod 2)==0 then bif i64.wrap ((u64.wrap which).tmod 2)==0
 then R (.bool (AB 15 [DG [114,111,111,116]] [{k:=[97],g:=DG [98],l:=[[120,46,121]],f:=10,u:=20,ca:=false},{k:=[98],g:=DG [114,111,111,116],l:=[[120,46,121]],f:=10,u:=20,ca:=true}]))
 else bif !AB 15 [DG [114,111,111,116]] [{k:=[97],g:=DG [98],l:=[[120,46,121]],f:=10,u:=20,ca:=false},{k:=[98],g:=DG [114,111,111,116],l:=[[120,46,121]],f:=10,u:=20,ca:=true}]
 then R (.bool (JV [EB {k:=[97],g:=DG [98],l:=[[120,46,121]],f:=10,u:=20,ca:=false},EB {k:=[98],g:=DG [114,111,111,116],l:=[[120,46,121]],f:=10,u:=20,ca:=true}]
 [120,46,121] 15 [DG [114,111,111,116]]!=0))else R (.bool false)else bif i64.wrap ((u64.wrap which).tmod 2)==1 then bif i64.wrap
 ((u64.wrap which).tmod 2)==0 then R (.bool (AB 15 [DG [114,111,111,116]] [{k:=[97],g:=DG [98],l:=[[120,46,121]],f:=10,u:=20,ca:=false},
 {k:=[98],g:=DG [114,111,111,116],l:=[[120,46,121]],f:=10,u:=20,ca:=false}]))else bif !AB 15 [DG [114,111,111,116]] [{k:=[97],g:=DG [98],l:=[[120,46,121]],f:=10,u:=20,ca:=false},
 {k:=[98],g:=DG [114,111,111,116],l:=[[120,46,121]],f:=10,u:=20,ca:=false}]then R (.bool (JV [EB {k:=[97],g:=DG [98],l:=[[120,46,121]],f:=10,u:=20,ca:=false},
 EB {k:=[98],g:=DG [114,111,111,116],l:=[[120,46,121]],f:=10,u:=20,ca:=false}] [120,46,121] 15 [DG [114,111,111,116]]!=0))else R (.bool
 false)else False else False else bif decide (0≤i64.wrap ((u64.wrap which).tmod 2))&&decide (i64.wrap ((u64.wrap which).tmod 2)<2)
 then bif i64.wrap ((u64.wrap which).tmod 2)==0 then bif !AB 15 [DG [114,111,111,116]] [{k:=[97],g:=DG [98],l:=[[120,46,121]],f:=10,u:=14,ca:=false},
 {k:=[98],g:=DG [114,111,111,116],l:=[[120,46,121]],f:=10,u:=20,ca:=true}]then R (.bool (JV [EB {k:=[97],g:=DG [98],l:=[[120,46,121]],f:=10,u:=14,ca:=false},
 EB {k:=[98],g:=DG [114,111,111,116],l:=[[120,46,121]],f:=10,u:=20,ca:=true}] [120,46,121] 15 [DG [114,111,111,116]]!=0))else R (.bool
 false)else bif i64.wrap ((u64.wrap which).tmod 2)==1 then bif !AB 15 [DG [114,111,111,116]] [{k:=[97],g:=DG [98],l:=[[120,46,121]],f:=10,u:=20,ca:=false},
 {k:=[98],g:=DG [114,111,111,116],l:=[[120,46,121]],f:=10,u:=14,ca:=true}]then R (.bool (JV [EB {k:=[97],g:=DG [98],l:=[[120,46,121]],f:=10,u:=20,ca:=false},
 EB {k:=[98],g:=DG [114,111,111,116],l:=[[120,46,121]],f:=10,u:=14,ca:=true}] [120,46,121] 15 [DG [114,111,111,116]]!=0))else R (.bool
 false)else False else False else bif i64.wrap (1+i64.wrap ((u64.wrap many).tmod 4))==3 then bif !LB [{k:=[97],g:=DG [98],l:=[[120,46,121]],f:=10,u:=20,ca:=false},
 {k:=[98],g:=DG [99],l:=[[120,46,121]],f:=10,u:=20,ca:=true},{k:=[99],g:=DG [114,111,111,116],l:=[[120,46,121]],f:=10,u:=20,ca:=true}]
 then R (.bool false)else bif !AB 15 [DG [114,111,111,116]] [{k:=[97],g:=DG [98],l:=[[120,46,121]],f:=10,u:=20,ca:=false},{k:=[98],g:=DG [99],l:=[[120,46,121]],f:=10,u:=20,ca:=true},
 {k:=[99],g:=DG [114,111,111,116],l:=[[120,46,121]],f:=10,u:=20,ca:=true}]then R (.bool false)else bif JV [EB {k:=[97],g:=DG [98],l:=[[120,46,121]],f:=10,u:=20,ca:=false},
 EB {k:=[98],g:=DG [99],l:=[[120,46,121]],f:=10,u:=20,ca:=true},EB {k:=[99],g:=DG [114,111,111,116],l:=[[120,46,121]],f:=10,u:=20,ca:=true}]
 [120,46,121] 15 [DG [114,111,111,116]]!=0 then R (.bool false)else bif how.tmod 3==0 then bif decide (0≤i64.wrap ((u64.wrap which).tmod 3))
 &&decide (i64.wrap ((u64.wrap which).tmod 3)<3)then bif i64.wrap ((u64.wrap which).tmod 3)==0 then bif bY==DG [98]then R (.bool
 true)else bif bY==DG [114,111,111,116]then R (.bool true)else bif decide (0≤i64.wrap ((u64.wrap which).tmod 3))&&decide (i64.wrap
 ((u64.wrap which).tmod 3)<3)then bif i64.wrap ((u64.wrap which).tmod 3)==0 then bif !AB 15 [DG [114,111,111,116]] [{k:=[97],g:=bY,l:=[[120,46,121]],f:=10,u:=20,ca:=false},
 {k:=[98],g:=DG [99],l:=[[120,46,121]],f:=10,u:=20,ca:=true},{k:=[99],g:=DG [114,111,111,116],l:=[[120,46,121]],f:=10,u:=20,ca:=true}]
 then R (.bool (JV [EB {k:=[97],g:=bY,l:=[[120,46,121]],f:=10,u:=20,ca:=false},EB {k:=[98],g:=DG [99],l:=[[120,46,121]],f:=10,u:=20,ca:=true},
 EB {k:=[99],g:=DG [114,111,111,116],l:=[[120,46,121]],f:=10,u:=20,ca:=true}] [120,46,121] 15 [DG [114,111,111,116]]!=0))else R (.bool
 false)else bif i64.wrap ((u64.wrap which).tmod 3)==1 then bif !AB 15 [DG [114,111,111,116]] [{k:=[97],g:=DG [98],l:=[[120,46,121]],f:=10,u:=20,ca:=false},
 {k:=[98],g:=bY,l:=[[120,46,121]],f:=10,u:=20,ca:=true},{k:=[99],g:=DG [114,111,111,116],l:=[[120,46,121]],f:=10,u:=20,ca:=true}]
 then R (.bool (JV [EB {k:=[97],g:=DG [98],l:=[[120,46,121]],f:=10,u:=20,ca:=false},EB {k:=[98],g:=bY,l:=[[120,46,121]],f:=10,u:=20,ca:=true},
 EB {k:=[99],g:=DG [114,111,111,116],l:=[[120,46,121]],f:=10,u:=20,ca:=true}] [120,46,121] 15 [DG [114,111,111,116]]!=0))else R (.bool
 false)else bif i64.wrap ((u64.wrap which).tmod 3)==2 then bif !AB 15 [DG [114,111,111,116]] [{k:=[97],g:=DG [98],l:=[[120,46,121]],f:=10,u:=20,ca:=false},
 {k:=[98],g:=DG [99],l:=[[120,46,121]],f:=10,u:=20,ca:=true},{k:=[99],g:=bY,l:=[[120,46,121]],f:=10,u:=20,ca:=true}]then R
 (.bool (JV [EB {k:=[97],g:=DG [98],l:=[[120,46,121]],f:=10,u:=20,ca:=false},EB {k:=[98],g:=DG [99],l:=[[120,46,121]],f:=10,u:=20,ca:=true},
 EB {k:=[99],g:=bY,l:=[[120,46,121]],f:=10,u:=20,ca:=true}] [120,46,121] 15 [DG [114,111,111,116]]!=0))else R (.bool false)else False else
 False else bif i64.wrap ((u64.wrap which).tmod 3)==1 then bif bY==DG [99]then R (.bool true)else bif bY==DG [114,111,111,116]then R (.bool
 true)else bif decide (0≤i64.wrap ((u64.wrap which).tmod 3))&&decide (i64.wrap ((u64.wrap which).tmod 3)<3)then bif
 i64.wrap ((u64.wrap which).tmod 3)==0 then bif !AB 15 [DG [114,111,111,116]] [{k:=[97],g:=bY,l:=[[120,46,121]],f:=10,u:=20,ca:=false},
 {k:=[98],g:=DG [99],l:=[[120,46,121]],f:=10,u:=20,ca:=true},{k:=[99],g:=DG [114,111,111,116],l:=[[120,46,121]],f:=10,u:=20,ca:=true}]
 then R (.bool (JV [EB {k:=[97],g:=bY,l:=[[120,46,121]],f:=10,u:=20,ca:=false},EB {k:=[98],g:=DG [99],l:=[[120,46,121]],f:=10,u:=20,ca:=true},
 EB {k:=[99],g:=DG [114,111,111,116],l:=[[120,46,121]],f:=10,u:=20,ca:=true}] [120,46,121] 15 [DG [114,111,111,116]]!=0))else R (.bool
 false)else bif i64.wrap ((u64.wrap which).tmod 3)==1 then bif !AB 15 [DG [114,111,111,116]] [{k:=[97],g:=DG [98],l:=[[120,46,121]],f:=10,u:=20,ca:=false},
 {k:=[98],g:=bY,l:=[[120,46,121]],f:=10,u:=20,ca:=true},{k:=[99],g:=DG [114,111,111,116],l:=[[120,46,121]],f:=10,u:=20,ca:=true}]
 then R (.bool (JV [EB {k:=[97],g:=DG [98],l:=[[120,46,121]],f:=10,u:=20,ca:=false},EB {k:=[98],g:=bY,l:=[[120,46,121]],f:=10,u:=20,ca:=true},
 EB {k:=[99],g:=DG [114,111,111,116],l:=[[120,46,121]],f:=10,u:=20,ca:=true}] [120,46,121] 15 [DG [114,111,111,116]]!=0))else R (.bool
 false)else bif i64.wrap ((u64.wrap which).tmod 3)==2 then bif !AB 15 [DG [114,111,111,116]] [{k:=[97],g:=DG [98],l:=[[120,46,121]],f:=10,u:=20,ca:=false},
 {k:=[98],g:=DG [99],l:=[[120,46,121]],f:=10,u:=20,ca:=true},{k:=[99],g:=bY,l:=[[120,46,121]],f:=10,u:=20,ca:=true}]then R
 (.bool (JV [EB {k:=[97],g:=DG [98],l:=[[120,46,121]],f:=10,u:=20,ca:=false},EB {k:=[98],g:=DG [99],l:=[[120,46,121]],f:=10,u:=20,ca:=true},
 EB {k:=[99],g:=bY,l:=[[120,46,121]],f:=10,u:=20,ca:=true}] [120,46,121] 15 [DG [114,111,111,116]]!=0))else R (.bool false)else False else
 False else bif i64.wrap ((u64.wrap which).tmod 3)==2 then bif bY==DG [114,111,111,116]then R (.bool true)else bif bY==DG [114,111,111,116]
 then R (.bool true)else bif decide (0≤i64.wrap ((u64.wrap which).tmod 3))&&decide (i64.wrap ((u64.wrap which).tmod 3)<3)then bif
 i64.wrap ((u64.wrap which).tmod 3)==0 then bif !AB 15 [DG [114,111,111,116]] [{k:=[97],g:=bY,l:=[[120,46,121]],f:=10,u:=20,ca:=false},
 {k:=[98],g:=DG [99],l:=[[120,46,121]],f:=10,u:=20,ca:=true},{k:=[99],g:=DG [114,111,111,116],l:=[[120,46,121]],f:=10,u:=20,ca:=true}]
 then R (.bool (JV [EB {k:=[97],g:=bY,l:=[[120,46,121]],f:=10,u:=20,ca:=false},EB {k:=[98],g:=DG [99],l:=[[120,46,121]],f:=10,u:=20,ca:=true},
 EB {k:=[99],g:=DG [114,111,111,116],l:=[[120,46,121]],f:=10,u:=20,ca:=true}] [120,46,121] 15 [DG [114,111,111,116]]!=0))else R (.bool
 false)else bif i64.wrap ((u64.wrap which).tmod 3)==1 then bif !AB 15 [DG [114,111,111,116]] [{k:=[97],g:=DG [98],l:=[[120,46,121]],f:=10,u:=20,ca:=false},
 {k:=[98],g:=bY,l:=[[120,46,121]],f:=10,u:=20,ca:=true},{k:=[99],g:=DG [114,111,111,116],l:=[[120,46,121]],f:=10,u:=20,ca:=true}]
 then R (.bool (JV [EB {k:=[97],g:=DG [98],l:=[[120,46,121]],f:=10,u:=20,ca:=false},EB {k:=[98],g:=bY,l:=[[120,46,121]],f:=10,u:=20,ca:=true},
 EB {k:=[99],g:=DG [114,111,111,116],l:=[[120,46,121]],f:=10,u:=20,ca:=true}] [120,46,121] 15 [DG [114,111,111,116]]!=0))else R (.bool
 false)else bif i64.wrap ((u64.wrap which).tmod 3)==2 then bif !AB 15 [DG [114,111,111,116]] [{k:=[97],g:=DG [98],l:=[[120,46,121]],f:=10,u:=20,ca:=false},
 {k:=[98],g:=DG [99],l:=[[120,46,121]],f:=10,u:=20,ca:=true},{k:=[99],g:=bY,l:=[[120,46,121]],f:=10,u:=20,ca:=true}]then R
 (.bool (JV [EB {k:=[97],g:=DG [98],l:=[[120,46,121]],f:=10,u:=20,ca:=false},EB {k:=[98],g:=DG [99],l:=[[120,46,121]],f:=10,u:=20,ca:=true},
 EB {k:=[99],g:=bY,l:=[[120,46,121]],f:=10,u:=20,ca:=true}] [120,46,121] 15 [DG [114,111,111,116]]!=0))else R (.bool false)else False else
 False else False else False else bif how.tmod 3==1 then bif decide (0≤i64.wrap ((u64.wrap which).tmod 3))&&decide (i64.wrap
 ((u64.wrap which).tmod 3)<3)then bif i64.wrap ((u64.wrap which).tmod 3)==0 then bif i64.wrap ((u64.wrap which).tmod 3)==0
 then R (.bool (AB 15 [DG [114,111,111,116]] [{k:=[97],g:=DG [98],l:=[[120,46,121]],f:=10,u:=20,ca:=false},{k:=[98],g:=DG [99],l:=[[120,46,121]],f:=10,u:=20,ca:=true},
 {k:=[99],g:=DG [114,111,111,116],l:=[[120,46,121]],f:=10,u:=20,ca:=true}]))else bif !AB 15 [DG [114,111,111,116]] [{k:=[97],g:=DG [98],l:=[[120,46,121]],f:=10,u:=20,ca:=false},
 {k:=[98],g:=DG [99],l:=[[120,46,121]],f:=10,u:=20,ca:=true},{k:=[99],g:=DG [114,111,111,116],l:=[[120,46,121]],f:=10,u:=20,ca:=true}]
 then R (.bool (JV [EB {k:=[97],g:=DG [98],l:=[[120,46,121]],f:=10,u:=20,ca:=false},EB {k:=[98],g:=DG [99],l:=[[120,46,121]],f:=10,u:=20,ca:=true},
 EB {k:=[99],g:=DG [114,111,111,116],l:=[[120,46,121]],f:=10,u:=20,ca:=true}] [120,46,121] 15 [DG [114,111,111,116]]!=0))else R (.bool
 false)else bif i64.wrap ((u64.wrap which).tmod 3)==1 then bif i64.wrap ((u64.wrap which).tmod 3)==0 then R (.bool (AB 15 [DG [114,
 111,111,116]] [{k:=[97],g:=DG [98],l:=[[120,46,121]],f:=10,u:=20,ca:=false},{k:=[98],g:=DG [99],l:=[[120,46,121]],f:=10,u:=20,ca:=false},
 {k:=[99],g:=DG [114,111,111,116],l:=[[120,46,121]],f:=10,u:=20,ca:=true}]))else bif !AB 15 [DG [114,111,111,116]] [{k:=[97],g:=DG [98],l:=[[120,46,121]],f:=10,u:=20,ca:=false},
 {k:=[98],g:=DG [99],l:=[[120,46,121]],f:=10,u:=20,ca:=false},{k:=[99],g:=DG [114,111,111,116],l:=[[120,46,121]],f:=10,u:=20,ca:=true}]
 then R (.bool (JV [EB {k:=[97],g:=DG [98],l:=[[120,46,121]],f:=10,u:=20,ca:=false},EB {k:=[98],g:=DG [99],l:=[[120,46,121]],f:=10,u:=20,ca:=false},
 EB {k:=[99],g:=DG [114,111,111,116],l:=[[120,46,121]],f:=10,u:=20,ca:=true}] [120,46,121] 15 [DG [114,111,111,116]]!=0))else R (.bool
 false)else bif i64.wrap ((u64.wrap which).tmod 3)==2 then bif i64.wrap ((u64.wrap which).tmod 3)==0 then R (.bool (AB 15 [DG [114,
 111,111,116]] [{k:=[97],g:=DG [98],l:=[[120,46,121]],f:=10,u:=20,ca:=false},{k:=[98],g:=DG [99],l:=[[120,46,121]],f:=10,u:=20,ca:=true},
 {k:=[99],g:=DG [114,111,111,116],l:=[[120,46,121]],f:=10,u:=20,ca:=false}]))else bif !AB 15 [DG [114,111,111,116]] [{k:=[97],g:=DG [98],l:=[[120,46,121]],f:=10,u:=20,ca:=false},
 {k:=[98],g:=DG [99],l:=[[120,46,121]],f:=10,u:=20,ca:=true},{k:=[99],g:=DG [114,111,111,116],l:=[[120,46,121]],f:=10,u:=20,ca:=false}]
 then R (.bool (JV [EB {k:=[97],g:=DG [98],l:=[[120,46,121]],f:=10,u:=20,ca:=false},EB {k:=[98],g:=DG [99],l:=[[120,46,121]],f:=10,u:=20,ca:=true},
 EB {k:=[99],g:=DG [114,111,111,116],l:=[[120,46,121]],f:=10,u:=20,ca:=false}] [120,46,121] 15 [DG [114,111,111,116]]!=0))else R (.bool
 false)else False else False else bif decide (0≤i64.wrap ((u64.wrap which).tmod 3))&&decide (i64.wrap ((u64.wrap which).tmod 3)<3)
 then bif i64.wrap ((u64.wrap which).tmod 3)==0 then bif !AB 15 [DG [114,111,111,116]] [{k:=[97],g:=DG [98],l:=[[120,46,121]],f:=10,u:=14,ca:=false},
 {k:=[98],g:=DG [99],l:=[[120,46,121]],f:=10,u:=20,ca:=true},{k:=[99],g:=DG [114,111,111,116],l:=[[120,46,121]],f:=10,u:=20,ca:=true}]
 then R (.bool (JV [EB {k:=[97],g:=DG [98],l:=[[120,46,121]],f:=10,u:=14,ca:=false},EB {k:=[98],g:=DG [99],l:=[[120,46,121]],f:=10,u:=20,ca:=true},
 EB {k:=[99],g:=DG [114,111,111,116],l:=[[120,46,121]],f:=10,u:=20,ca:=true}] [120,46,121] 15 [DG [114,111,111,116]]!=0))else R (.bool
 false)else bif i64.wrap ((u64.wrap which).tmod 3)==1 then bif !AB 15 [DG [114,111,111,116]] [{k:=[97],g:=DG [98],l:=[[120,46,121]],f:=10,u:=20,ca:=false},
 {k:=[98],g:=DG [99],l:=[[120,46,121]],f:=10,u:=14,ca:=true},{k:=[99],g:=DG [114,111,111,116],l:=[[120,46,121]],f:=10,u:=20,ca:=true}]
 then R (.bool (JV [EB {k:=[97],g:=DG [98],l:=[[120,46,121]],f:=10,u:=20,ca:=false},EB {k:=[98],g:=DG [99],l:=[[120,46,121]],f:=10,u:=14,ca:=true},
 EB {k:=[99],g:=DG [114,111,111,116],l:=[[120,46,121]],f:=10,u:=20,ca:=true}] [120,46,121] 15 [DG [114,111,111,116]]!=0))else R (.bool
 false)else bif i64.wrap ((u64.wrap which).tmod 3)==2 then bif !AB 15 [DG [114,111,111,116]] [{k:=[97],g:=DG [98],l:=[[120,46,121]],f:=10,u:=20,ca:=false},
 {k:=[98],g:=DG [99],l:=[[120,46,121]],f:=10,u:=20,ca:=true},{k:=[99],g:=DG [114,111,111,116],l:=[[120,46,121]],f:=10,u:=14,ca:=true}]
 then R (.bool (JV [EB {k:=[97],g:=DG [98],l:=[[120,46,121]],f:=10,u:=20,ca:=false},EB {k:=[98],g:=DG [99],l:=[[120,46,121]],f:=10,u:=20,ca:=true},
 EB {k:=[99],g:=DG [114,111,111,116],l:=[[120,46,121]],f:=10,u:=14,ca:=true}] [120,46,121] 15 [DG [114,111,111,116]]!=0))else R (.bool
 false)else False else False else bif i64.wrap (1+i64.wrap ((u64.wrap many).tmod 4))==4 then bif !LB [{k:=[97],g:=DG [98],l:=[[120,46,121]],f:=10,u:=20,ca:=false},
 {k:=[98],g:=DG [99],l:=[[120,46,121]],f:=10,u:=20,ca:=true},{k:=[99],g:=DG [100],l:=[[120,46,121]],f:=10,u:=20,ca:=true},{k:=[100],g:=DG [114,111,111,116],l:=[[120,46,121]],f:=10,u:=20,ca:=true}]
 then R (.bool false)else bif !AB 15 [DG [114,111,111,116]] [{k:=[97],g:=DG [98],l:=[[120,46,121]],f:=10,u:=20,ca:=false},{k:=[98],g:=DG [99],l:=[[120,46,121]],f:=10,u:=20,ca:=true},
 {k:=[99],g:=DG [100],l:=[[120,46,121]],f:=10,u:=20,ca:=true},{k:=[100],g:=DG [114,111,111,116],l:=[[120,46,121]],f:=10,u:=20,ca:=true}]
 then R (.bool false)else bif JV [EB {k:=[97],g:=DG [98],l:=[[120,46,121]],f:=10,u:=20,ca:=false},EB {k:=[98],g:=DG [99],l:=[[120,46,121]],f:=10,u:=20,ca:=true},
 EB {k:=[99],g:=DG [100],l:=[[120,46,121]],f:=10,u:=20,ca:=true},EB {k:=[100],g:=DG [114,111,111,116],l:=[[120,46,121]],f:=10,u:=20,ca:=true}]
 [120,46,121] 15 [DG [114,111,111,116]]!=0 then R (.bool false)else bif how.tmod 3==0 then bif decide (0≤i64.wrap ((u64.wrap which).tmod 4))
 &&decide (i64.wrap ((u64.wrap which).tmod 4)<4)then bif i64.wrap ((u64.wrap which).tmod 4)==0 then bif bY==DG [98]then R (.bool
 true)else bif bY==DG [114,111,111,116]then R (.bool true)else bif decide (0≤i64.wrap ((u64.wrap which).tmod 4))&&decide (i64.wrap
 ((u64.wrap which).tmod 4)<4)then bif i64.wrap ((u64.wrap which).tmod 4)==0 then bif !AB 15 [DG [114,111,111,116]] [{k:=[97],g:=bY,l:=[[120,46,121]],f:=10,u:=20,ca:=false},
 {k:=[98],g:=DG [99],l:=[[120,46,121]],f:=10,u:=20,ca:=true},{k:=[99],g:=DG [100],l:=[[120,46,121]],f:=10,u:=20,ca:=true},{k:=[100],g:=DG [114,111,111,116],l:=[[120,46,121]],f:=10,u:=20,ca:=true}]
 then R (.bool (JV [EB {k:=[97],g:=bY,l:=[[120,46,121]],f:=10,u:=20,ca:=false},EB {k:=[98],g:=DG [99],l:=[[120,46,121]],f:=10,u:=20,ca:=true},
 EB {k:=[99],g:=DG [100],l:=[[120,46,121]],f:=10,u:=20,ca:=true},EB {k:=[100],g:=DG [114,111,111,116],l:=[[120,46,121]],f:=10,u:=20,ca:=true}]
 [120,46,121] 15 [DG [114,111,111,116]]!=0))else R (.bool false)else bif i64.wrap ((u64.wrap which).tmod 4)==1 then bif !AB 15 [DG [114,111,
 111,116]] [{k:=[97],g:=DG [98],l:=[[120,46,121]],f:=10,u:=20,ca:=false},{k:=[98],g:=bY,l:=[[120,46,121]],f:=10,u:=20,ca:=true},
 {k:=[99],g:=DG [100],l:=[[120,46,121]],f:=10,u:=20,ca:=true},{k:=[100],g:=DG [114,111,111,116],l:=[[120,46,121]],f:=10,u:=20,ca:=true}]
 then R (.bool (JV [EB {k:=[97],g:=DG [98],l:=[[120,46,121]],f:=10,u:=20,ca:=false},EB {k:=[98],g:=bY,l:=[[120,46,121]],f:=10,u:=20,ca:=true},
 EB {k:=[99],g:=DG [100],l:=[[120,46,121]],f:=10,u:=20,ca:=true},EB {k:=[100],g:=DG [114,111,111,116],l:=[[120,46,121]],f:=10,u:=20,ca:=true}]
 [120,46,121] 15 [DG [114,111,111,116]]!=0))else R (.bool false)else bif i64.wrap ((u64.wrap which).tmod 4)==2 then bif !AB 15 [DG [114,111,
 111,116]] [{k:=[97],g:=DG [98],l:=[[120,46,121]],f:=10,u:=20,ca:=false},{k:=[98],g:=DG [99],l:=[[120,46,121]],f:=10,u:=20,ca:=true},
 {k:=[99],g:=bY,l:=[[120,46,121]],f:=10,u:=20,ca:=true},{k:=[100],g:=DG [114,111,111,116],l:=[[120,46,121]],f:=10,u:=20,ca:=true}]
 then R (.bool (JV [EB {k:=[97],g:=DG [98],l:=[[120,46,121]],f:=10,u:=20,ca:=false},EB {k:=[98],g:=DG [99],l:=[[120,46,121]],f:=10,u:=20,ca:=true},
 EB {k:=[99],g:=bY,l:=[[120,46,121]],f:=10,u:=20,ca:=true},EB {k:=[100],g:=DG [114,111,111,116],l:=[[120,46,121]],f:=10,u:=20,ca:=true}]
 [120,46,121] 15 [DG [114,111,111,116]]!=0))else R (.bool false)else bif i64.wrap ((u64.wrap which).tmod 4)==3 then bif !AB 15 [DG [114,111,
 111,116]] [{k:=[97],g:=DG [98],l:=[[120,46,121]],f:=10,u:=20,ca:=false},{k:=[98],g:=DG [99],l:=[[120,46,121]],f:=10,u:=20,ca:=true},
 {k:=[99],g:=DG [100],l:=[[120,46,121]],f:=10,u:=20,ca:=true},{k:=[100],g:=bY,l:=[[120,46,121]],f:=10,u:=20,ca:=true}]then R
 (.bool (JV [EB {k:=[97],g:=DG [98],l:=[[120,46,121]],f:=10,u:=20,ca:=false},EB {k:=[98],g:=DG [99],l:=[[120,46,121]],f:=10,u:=20,ca:=true},
 EB {k:=[99],g:=DG [100],l:=[[120,46,121]],f:=10,u:=20,ca:=true},EB {k:=[100],g:=bY,l:=[[120,46,121]],f:=10,u:=20,ca:=true}]
 [120,46,121] 15 [DG [114,111,111,116]]!=0))else R (.bool false)else False else False else bif i64.wrap ((u64.wrap which).tmod 4)==1 then bif
 bY==DG [99]then R (.bool true)else bif bY==DG [114,111,111,116]then R (.bool true)else bif decide (0≤i64.wrap ((u64.wrap which).tmod 4))&&
 decide (i64.wrap ((u64.wrap which).tmod 4)<4)then bif i64.wrap ((u64.wrap which).tmod 4)==0 then bif !AB 15 [DG [114,111,111,116]]
 [{k:=[97],g:=bY,l:=[[120,46,121]],f:=10,u:=20,ca:=false},{k:=[98],g:=DG [99],l:=[[120,46,121]],f:=10,u:=20,ca:=true},{k:=[99],g:=DG [100],l:=[[120,46,121]],f:=10,u:=20,ca:=true},
 {k:=[100],g:=DG [114,111,111,116],l:=[[120,46,121]],f:=10,u:=20,ca:=true}]then R (.bool (JV [EB {k:=[97],g:=bY,l:=[[120,46,121]],f:=10,u:=20,ca:=false},
 EB {k:=[98],g:=DG [99],l:=[[120,46,121]],f:=10,u:=20,ca:=true},EB {k:=[99],g:=DG [100],l:=[[120,46,121]],f:=10,u:=20,ca:=true},
 EB {k:=[100],g:=DG [114,111,111,116],l:=[[120,46,121]],f:=10,u:=20,ca:=true}] [120,46,121] 15 [DG [114,111,111,116]]!=0))else R (.bool
 false)else bif i64.wrap ((u64.wrap which).tmod 4)==1 then bif !AB 15 [DG [114,111,111,116]] [{k:=[97],g:=DG [98],l:=[[120,46,121]],f:=10,u:=20,ca:=false},
 {k:=[98],g:=bY,l:=[[120,46,121]],f:=10,u:=20,ca:=true},{k:=[99],g:=DG [100],l:=[[120,46,121]],f:=10,u:=20,ca:=true},{k:=[100],g:=DG [114,111,111,116],l:=[[120,46,121]],f:=10,u:=20,ca:=true}]
 then R (.bool (JV [EB {k:=[97],g:=DG [98],l:=[[120,46,121]],f:=10,u:=20,ca:=false},EB {k:=[98],g:=bY,l:=[[120,46,121]],f:=10,u:=20,ca:=true},
 EB {k:=[99],g:=DG [100],l:=[[120,46,121]],f:=10,u:=20,ca:=true},EB {k:=[100],g:=DG [114,111,111,116],l:=[[120,46,121]],f:=10,u:=20,ca:=true}]
 [120,46,121] 15 [DG [114,111,111,116]]!=0))else R (.bool false)else bif i64.wrap ((u64.wrap which).tmod 4)==2 then bif !AB 15 [DG [114,111,
 111,116]] [{k:=[97],g:=DG [98],l:=[[120,46,121]],f:=10,u:=20,ca:=false},{k:=[98],g:=DG [99],l:=[[120,46,121]],f:=10,u:=20,ca:=true},
 {k:=[99],g:=bY,l:=[[120,46,121]],f:=10,u:=20,ca:=true},{k:=[100],g:=DG [114,111,111,116],l:=[[120,46,121]],f:=10,u:=20,ca:=true}]
 then R (.bool (JV [EB {k:=[97],g:=DG [98],l:=[[120,46,121]],f:=10,u:=20,ca:=false},EB {k:=[98],g:=DG [99],l:=[[120,46,121]],f:=10,u:=20,ca:=true},
 EB {k:=[99],g:=bY,l:=[[120,46,121]],f:=10,u:=20,ca:=true},EB {k:=[100],g:=DG [114,111,111,116],l:=[[120,46,121]],f:=10,u:=20,ca:=true}]
 [120,46,121] 15 [DG [114,111,111,116]]!=0))else R (.bool false)else bif i64.wrap ((u64.wrap which).tmod 4)==3 then bif !AB 15 [DG [114,111,
 111,116]] [{k:=[97],g:=DG [98],l:=[[120,46,121]],f:=10,u:=20,ca:=false},{k:=[98],g:=DG [99],l:=[[120,46,121]],f:=10,u:=20,ca:=true},
 {k:=[99],g:=DG [100],l:=[[120,46,121]],f:=10,u:=20,ca:=true},{k:=[100],g:=bY,l:=[[120,46,121]],f:=10,u:=20,ca:=true}]then R
 (.bool (JV [EB {k:=[97],g:=DG [98],l:=[[120,46,121]],f:=10,u:=20,ca:=false},EB {k:=[98],g:=DG [99],l:=[[120,46,121]],f:=10,u:=20,ca:=true},
 EB {k:=[99],g:=DG [100],l:=[[120,46,121]],f:=10,u:=20,ca:=true},EB {k:=[100],g:=bY,l:=[[120,46,121]],f:=10,u:=20,ca:=true}]
 [120,46,121] 15 [DG [114,111,111,116]]!=0))else R (.bool false)else False else False else bif i64.wrap ((u64.wrap which).tmod 4)==2 then bif
 bY==DG [100]then R (.bool true)else bif bY==DG [114,111,111,116]then R (.bool true)else bif decide (0≤i64.wrap ((u64.wrap which).tmod 4))
 &&decide (i64.wrap ((u64.wrap which).tmod 4)<4)then bif i64.wrap ((u64.wrap which).tmod 4)==0 then bif !AB 15 [DG [114,111,111,
 116]] [{k:=[97],g:=bY,l:=[[120,46,121]],f:=10,u:=20,ca:=false},{k:=[98],g:=DG [99],l:=[[120,46,121]],f:=10,u:=20,ca:=true},{k:=[99],g:=DG [100],l:=[[120,46,121]],f:=10,u:=20,ca:=true},
 {k:=[100],g:=DG [114,111,111,116],l:=[[120,46,121]],f:=10,u:=20,ca:=true}]then R (.bool (JV [EB {k:=[97],g:=bY,l:=[[120,46,121]],f:=10,u:=20,ca:=false},
 EB {k:=[98],g:=DG [99],l:=[[120,46,121]],f:=10,u:=20,ca:=true},EB {k:=[99],g:=DG [100],l:=[[120,46,121]],f:=10,u:=20,ca:=true},
 EB {k:=[100],g:=DG [114,111,111,116],l:=[[120,46,121]],f:=10,u:=20,ca:=true}] [120,46,121] 15 [DG [114,111,111,116]]!=0))else R (.bool
 false)else bif i64.wrap ((u64.wrap which).tmod 4)==1 then bif !AB 15 [DG [114,111,111,116]] [{k:=[97],g:=DG [98],l:=[[120,46,121]],f:=10,u:=20,ca:=false},
 {k:=[98],g:=bY,l:=[[120,46,121]],f:=10,u:=20,ca:=true},{k:=[99],g:=DG [100],l:=[[120,46,121]],f:=10,u:=20,ca:=true},{k:=[100],g:=DG [114,111,111,116],l:=[[120,46,121]],f:=10,u:=20,ca:=true}]
 then R (.bool (JV [EB {k:=[97],g:=DG [98],l:=[[120,46,121]],f:=10,u:=20,ca:=false},EB {k:=[98],g:=bY,l:=[[120,46,121]],f:=10,u:=20,ca:=true},
 EB {k:=[99],g:=DG [100],l:=[[120,46,121]],f:=10,u:=20,ca:=true},EB {k:=[100],g:=DG [114,111,111,116],l:=[[120,46,121]],f:=10,u:=20,ca:=true}]
 [120,46,121] 15 [DG [114,111,111,116]]!=0))else R (.bool false)else bif i64.wrap ((u64.wrap which).tmod 4)==2 then bif !AB 15 [DG [114,111,
 111,116]] [{k:=[97],g:=DG [98],l:=[[120,46,121]],f:=10,u:=20,ca:=false},{k:=[98],g:=DG [99],l:=[[120,46,121]],f:=10,u:=20,ca:=true},
 {k:=[99],g:=bY,l:=[[120,46,121]],f:=10,u:=20,ca:=true},{k:=[100],g:=DG [114,111,111,116],l:=[[120,46,121]],f:=10,u:=20,ca:=true}]
 then R (.bool (JV [EB {k:=[97],g:=DG [98],l:=[[120,46,121]],f:=10,u:=20,ca:=false},EB {k:=[98],g:=DG [99],l:=[[120,46,121]],f:=10,u:=20,ca:=true},
 EB {k:=[99],g:=bY,l:=[[120,46,121]],f:=10,u:=20,ca:=true},EB {k:=[100],g:=DG [114,111,111,116],l:=[[120,46,121]],f:=10,u:=20,ca:=true}]
 [120,46,121] 15 [DG [114,111,111,116]]!=0))else R (.bool false)else bif i64.wrap ((u64.wrap which).tmod 4)==3 then bif !AB 15 [DG [114,111,
 111,116]] [{k:=[97],g:=DG [98],l:=[[120,46,121]],f:=10,u:=20,ca:=false},{k:=[98],g:=DG [99],l:=[[120,46,121]],f:=10,u:=20,ca:=true},
 {k:=[99],g:=DG [100],l:=[[120,46,121]],f:=10,u:=20,ca:=true},{k:=[100],g:=bY,l:=[[120,46,121]],f:=10,u:=20,ca:=true}]then R
 (.bool (JV [EB {k:=[97],g:=DG [98],l:=[[120,46,121]],f:=10,u:=20,ca:=false},EB {k:=[98],g:=DG [99],l:=[[120,46,121]],f:=10,u:=20,ca:=true},
 EB {k:=[99],g:=DG [100],l:=[[120,46,121]],f:=10,u:=20,ca:=true},EB {k:=[100],g:=bY,l:=[[120,46,121]],f:=10,u:=20,ca:=true}]
 [120,46,121] 15 [DG [114,111,111,116]]!=0))else R (.bool false)else False else False else bif i64.wrap ((u64.wrap which).tmod 4)==3 then bif
 bY==DG [114,111,111,116]then R (.bool true)else bif bY==DG [114,111,111,116]then R (.bool true)else bif decide (0≤i64.wrap ((u64.wrap
 which).tmod 4))&&decide (i64.wrap ((u64.wrap which).tmod 4)<4)then bif i64.wrap ((u64.wrap which).tmod 4)==0 then bif !AB 15 [DG
 [114,111,111,116]] [{k:=[97],g:=bY,l:=[[120,46,121]],f:=10,u:=20,ca:=false},{k:=[98],g:=DG [99],l:=[[120,46,121]],f:=10,u:=20,ca:=true},
 {k:=[99],g:=DG [100],l:=[[120,46,121]],f:=10,u:=20,ca:=true},{k:=[100],g:=DG [114,111,111,116],l:=[[120,46,121]],f:=10,u:=20,ca:=true}]
 then R (.bool (JV [EB {k:=[97],g:=bY,l:=[[120,46,121]],f:=10,u:=20,ca:=false},EB {k:=[98],g:=DG [99],l:=[[120,46,121]],f:=10,u:=20,ca:=true},
 EB {k:=[99],g:=DG [100],l:=[[120,46,121]],f:=10,u:=20,ca:=true},EB {k:=[100],g:=DG [114,111,111,116],l:=[[120,46,121]],f:=10,u:=20,ca:=true}]
 [120,46,121] 15 [DG [114,111,111,116]]!=0))else R (.bool false)else bif i64.wrap ((u64.wrap which).tmod 4)==1 then bif !AB 15 [DG [114,111,
 111,116]] [{k:=[97],g:=DG [98],l:=[[120,46,121]],f:=10,u:=20,ca:=false},{k:=[98],g:=bY,l:=[[120,46,121]],f:=10,u:=20,ca:=true},
 {k:=[99],g:=DG [100],l:=[[120,46,121]],f:=10,u:=20,ca:=true},{k:=[100],g:=DG [114,111,111,116],l:=[[120,46,121]],f:=10,u:=20,ca:=true}]
 then R (.bool (JV [EB {k:=[97],g:=DG [98],l:=[[120,46,121]],f:=10,u:=20,ca:=false},EB {k:=[98],g:=bY,l:=[[120,46,121]],f:=10,u:=20,ca:=true},
 EB {k:=[99],g:=DG [100],l:=[[120,46,121]],f:=10,u:=20,ca:=true},EB {k:=[100],g:=DG [114,111,111,116],l:=[[120,46,121]],f:=10,u:=20,ca:=true}]
 [120,46,121] 15 [DG [114,111,111,116]]!=0))else R (.bool false)else bif i64.wrap ((u64.wrap which).tmod 4)==2 then bif !AB 15 [DG [114,111,
 111,116]] [{k:=[97],g:=DG [98],l:=[[120,46,121]],f:=10,u:=20,ca:=false},{k:=[98],g:=DG [99],l:=[[120,46,121]],f:=10,u:=20,ca:=true},
 {k:=[99],g:=bY,l:=[[120,46,121]],f:=10,u:=20,ca:=true},{k:=[100],g:=DG [114,111,111,116],l:=[[120,46,121]],f:=10,u:=20,ca:=true}]
 then R (.bool (JV [EB {k:=[97],g:=DG [98],l:=[[120,46,121]],f:=10,u:=20,ca:=false},EB {k:=[98],g:=DG [99],l:=[[120,46,121]],f:=10,u:=20,ca:=true},
 EB {k:=[99],g:=bY,l:=[[120,46,121]],f:=10,u:=20,ca:=true},EB {k:=[100],g:=DG [114,111,111,116],l:=[[120,46,121]],f:=10,u:=20,ca:=true}]
 [120,46,121] 15 [DG [114,111,111,116]]!=0))else R (.bool false)else bif i64.wrap ((u64.wrap which).tmod 4)==3 then bif !AB 15 [DG [114,111,
 111,116]] [{k:=[97],g:=DG [98],l:=[[120,46,121]],f:=10,u:=20,ca:=false},{k:=[98],g:=DG [99],l:=[[120,46,121]],f:=10,u:=20,ca:=true},
 {k:=[99],g:=DG [100],l:=[[120,46,121]],f:=10,u:=20,ca:=true},{k:=[100],g:=bY,l:=[[120,46,121]],f:=10,u:=20,ca:=true}]then R
 (.bool (JV [EB {k:=[97],g:=DG [98],l:=[[120,46,121]],f:=10,u:=20,ca:=false},EB {k:=[98],g:=DG [99],l:=[[120,46,121]],f:=10,u:=20,ca:=true},
 EB {k:=[99],g:=DG [100],l:=[[120,46,121]],f:=10,u:=20,ca:=true},EB {k:=[100],g:=bY,l:=[[120,46,121]],f:=10,u:=20,ca:=true}]
 [120,46,121] 15 [DG [114,111,111,116]]!=0))else R (.bool false)else False else False else False else False else bif how.tmod 3==1 then bif decide (0≤
 i64.wrap ((u64.wrap which).tmod 4))&&decide (i64.wrap ((u64.wrap which).tmod 4)<4)then bif i64.wrap ((u64.wrap
 which).tmod 4)==0 then bif i64.wrap ((u64.wrap which).tmod 4)==0 then R (.bool (AB 15 [DG [114,111,111,116]] [{k:=[97],g:=DG [98],l:=[[120,46,121]],f:=10,u:=20,ca:=false},
 {k:=[98],g:=DG [99],l:=[[120,46,121]],f:=10,u:=20,ca:=true},{k:=[99],g:=DG [100],l:=[[120,46,121]],f:=10,u:=20,ca:=true},{k:=[100],g:=DG [114,111,111,116],l:=[[120,46,121]],f:=10,u:=20,ca:=true}]))
 else bif !AB 15 [DG [114,111,111,116]] [{k:=[97],g:=DG [98],l:=[[120,46,121]],f:=10,u:=20,ca:=false},{k:=[98],g:=DG [99],l:=[[120,46,121]],f:=10,u:=20,ca:=true},
 {k:=[99],g:=DG [100],l:=[[120,46,121]],f:=10,u:=20,ca:=true},{k:=[100],g:=DG [114,111,111,116],l:=[[120,46,121]],f:=10,u:=20,ca:=true}]
 then R (.bool (JV [EB {k:=[97],g:=DG [98],l:=[[120,46,121]],f:=10,u:=20,ca:=false},EB {k:=[98],g:=DG [99],l:=[[120,46,121]],f:=10,u:=20,ca:=true},
 EB {k:=[99],g:=DG [100],l:=[[120,46,121]],f:=10,u:=20,ca:=true},EB {k:=[100],g:=DG [114,111,111,116],l:=[[120,46,121]],f:=10,u:=20,ca:=true}]
 [120,46,121] 15 [DG [114,111,111,116]]!=0))else R (.bool false)else bif i64.wrap ((u64.wrap which).tmod 4)==1 then bif i64.wrap
 ((u64.wrap which).tmod 4)==0 then R (.bool (AB 15 [DG [114,111,111,116]] [{k:=[97],g:=DG [98],l:=[[120,46,121]],f:=10,u:=20,ca:=false},
 {k:=[98],g:=DG [99],l:=[[120,46,121]],f:=10,u:=20,ca:=false},{k:=[99],g:=DG [100],l:=[[120,46,121]],f:=10,u:=20,ca:=true},{k:=[100],g:=DG [114,111,111,116],l:=[[120,46,121]],f:=10,u:=20,ca:=true}]))
 else bif !AB 15 [DG [114,111,111,116]] [{k:=[97],g:=DG [98],l:=[[120,46,121]],f:=10,u:=20,ca:=false},{k:=[98],g:=DG [99],l:=[[120,46,121]],f:=10,u:=20,ca:=false},
 {k:=[99],g:=DG [100],l:=[[120,46,121]],f:=10,u:=20,ca:=true},{k:=[100],g:=DG [114,111,111,116],l:=[[120,46,121]],f:=10,u:=20,ca:=true}]
 then R (.bool (JV [EB {k:=[97],g:=DG [98],l:=[[120,46,121]],f:=10,u:=20,ca:=false},EB {k:=[98],g:=DG [99],l:=[[120,46,121]],f:=10,u:=20,ca:=false},
 EB {k:=[99],g:=DG [100],l:=[[120,46,121]],f:=10,u:=20,ca:=true},EB {k:=[100],g:=DG [114,111,111,116],l:=[[120,46,121]],f:=10,u:=20,ca:=true}]
 [120,46,121] 15 [DG [114,111,111,116]]!=0))else R (.bool false)else bif i64.wrap ((u64.wrap which).tmod 4)==2 then bif i64.wrap
 ((u64.wrap which).tmod 4)==0 then R (.bool (AB 15 [DG [114,111,111,116]] [{k:=[97],g:=DG [98],l:=[[120,46,121]],f:=10,u:=20,ca:=false},
 {k:=[98],g:=DG [99],l:=[[120,46,121]],f:=10,u:=20,ca:=true},{k:=[99],g:=DG [100],l:=[[120,46,121]],f:=10,u:=20,ca:=false},{k:=[100],g:=DG [114,111,111,116],l:=[[120,46,121]],f:=10,u:=20,ca:=true}]))
 else bif !AB 15 [DG [114,111,111,116]] [{k:=[97],g:=DG [98],l:=[[120,46,121]],f:=10,u:=20,ca:=false},{k:=[98],g:=DG [99],l:=[[120,46,121]],f:=10,u:=20,ca:=true},
 {k:=[99],g:=DG [100],l:=[[120,46,121]],f:=10,u:=20,ca:=false},{k:=[100],g:=DG [114,111,111,116],l:=[[120,46,121]],f:=10,u:=20,ca:=true}]
 then R (.bool (JV [EB {k:=[97],g:=DG [98],l:=[[120,46,121]],f:=10,u:=20,ca:=false},EB {k:=[98],g:=DG [99],l:=[[120,46,121]],f:=10,u:=20,ca:=true},
 EB {k:=[99],g:=DG [100],l:=[[120,46,121]],f:=10,u:=20,ca:=false},EB {k:=[100],g:=DG [114,111,111,116],l:=[[120,46,121]],f:=10,u:=20,ca:=true}]
 [120,46,121] 15 [DG [114,111,111,116]]!=0))else R (.bool false)else bif i64.wrap ((u64.wrap which).tmod 4)==3 then bif i64.wrap
 ((u64.wrap which).tmod 4)==0 then R (.bool (AB 15 [DG [114,111,111,116]] [{k:=[97],g:=DG [98],l:=[[120,46,121]],f:=10,u:=20,ca:=false},
 {k:=[98],g:=DG [99],l:=[[120,46,121]],f:=10,u:=20,ca:=true},{k:=[99],g:=DG [100],l:=[[120,46,121]],f:=10,u:=20,ca:=true},{k:=[100],g:=DG [114,111,111,116],l:=[[120,46,121]],f:=10,u:=20,ca:=false}]))
 else bif !AB 15 [DG [114,111,111,116]] [{k:=[97],g:=DG [98],l:=[[120,46,121]],f:=10,u:=20,ca:=false},{k:=[98],g:=DG [99],l:=[[120,46,121]],f:=10,u:=20,ca:=true},
 {k:=[99],g:=DG [100],l:=[[120,46,121]],f:=10,u:=20,ca:=true},{k:=[100],g:=DG [114,111,111,116],l:=[[120,46,121]],f:=10,u:=20,ca:=false}]
 then R (.bool (JV [EB {k:=[97],g:=DG [98],l:=[[120,46,121]],f:=10,u:=20,ca:=false},EB {k:=[98],g:=DG [99],l:=[[120,46,121]],f:=10,u:=20,ca:=true},
 EB {k:=[99],g:=DG [100],l:=[[120,46,121]],f:=10,u:=20,ca:=true},EB {k:=[100],g:=DG [114,111,111,116],l:=[[120,46,121]],f:=10,u:=20,ca:=false}]
 [120,46,121] 15 [DG [114,111,111,116]]!=0))else R (.bool false)else False else False else bif decide (0≤i64.wrap ((u64.wrap which).tmod 4))&&
 decide (i64.wrap ((u64.wrap which).tmod 4)<4)then bif i64.wrap ((u64.wrap which).tmod 4)==0 then bif !AB 15 [DG [114,111,111,116]]
 [{k:=[97],g:=DG [98],l:=[[120,46,121]],f:=10,u:=14,ca:=false},{k:=[98],g:=DG [99],l:=[[120,46,121]],f:=10,u:=20,ca:=true},{k:=[99],g:=DG [100],l:=[[120,46,121]],f:=10,u:=20,ca:=true},
 {k:=[100],g:=DG [114,111,111,116],l:=[[120,46,121]],f:=10,u:=20,ca:=true}]then R (.bool (JV [EB {k:=[97],g:=DG [98],l:=[[120,46,121]],f:=10,u:=14,ca:=false},
 EB {k:=[98],g:=DG [99],l:=[[120,46,121]],f:=10,u:=20,ca:=true},EB {k:=[99],g:=DG [100],l:=[[120,46,121]],f:=10,u:=20,ca:=true},
 EB {k:=[100],g:=DG [114,111,111,116],l:=[[120,46,121]],f:=10,u:=20,ca:=true}] [120,46,121] 15 [DG [114,111,111,116]]!=0))else R (.bool
 false)else bif i64.wrap ((u64.wrap which).tmod 4)==1 then bif !AB 15 [DG [114,111,111,116]] [{k:=[97],g:=DG [98],l:=[[120,46,121]],f:=10,u:=20,ca:=false},
 {k:=[98],g:=DG [99],l:=[[120,46,121]],f:=10,u:=14,ca:=true},{k:=[99],g:=DG [100],l:=[[120,46,121]],f:=10,u:=20,ca:=true},{k:=[100],g:=DG [114,111,111,116],l:=[[120,46,121]],f:=10,u:=20,ca:=true}]
 then R (.bool (JV [EB {k:=[97],g:=DG [98],l:=[[120,46,121]],f:=10,u:=20,ca:=false},EB {k:=[98],g:=DG [99],l:=[[120,46,121]],f:=10,u:=14,ca:=true},
 EB {k:=[99],g:=DG [100],l:=[[120,46,121]],f:=10,u:=20,ca:=true},EB {k:=[100],g:=DG [114,111,111,116],l:=[[120,46,121]],f:=10,u:=20,ca:=true}]
 [120,46,121] 15 [DG [114,111,111,116]]!=0))else R (.bool false)else bif i64.wrap ((u64.wrap which).tmod 4)==2 then bif !AB 15 [DG [114,111,
 111,116]] [{k:=[97],g:=DG [98],l:=[[120,46,121]],f:=10,u:=20,ca:=false},{k:=[98],g:=DG [99],l:=[[120,46,121]],f:=10,u:=20,ca:=true},
 {k:=[99],g:=DG [100],l:=[[120,46,121]],f:=10,u:=14,ca:=true},{k:=[100],g:=DG [114,111,111,116],l:=[[120,46,121]],f:=10,u:=20,ca:=true}]
 then R (.bool (JV [EB {k:=[97],g:=DG [98],l:=[[120,46,121]],f:=10,u:=20,ca:=false},EB {k:=[98],g:=DG [99],l:=[[120,46,121]],f:=10,u:=20,ca:=true},
 EB {k:=[99],g:=DG [100],l:=[[120,46,121]],f:=10,u:=14,ca:=true},EB {k:=[100],g:=DG [114,111,111,116],l:=[[120,46,121]],f:=10,u:=20,ca:=true}]
 [120,46,121] 15 [DG [114,111,111,116]]!=0))else R (.bool false)else bif i64.wrap ((u64.wrap which).tmod 4)==3 then bif !AB 15 [DG [114,111,
 111,116]] [{k:=[97],g:=DG [98],l:=[[120,46,121]],f:=10,u:=20,ca:=false},{k:=[98],g:=DG [99],l:=[[120,46,121]],f:=10,u:=20,ca:=true},
 {k:=[99],g:=DG [100],l:=[[120,46,121]],f:=10,u:=20,ca:=true},{k:=[100],g:=DG [114,111,111,116],l:=[[120,46,121]],f:=10,u:=14,ca:=true}]
 then R (.bool (JV [EB {k:=[97],g:=DG [98],l:=[[120,46,121]],f:=10,u:=20,ca:=false},EB {k:=[98],g:=DG [99],l:=[[120,46,121]],f:=10,u:=20,ca:=true},
 EB {k:=[99],g:=DG [100],l:=[[120,46,121]],f:=10,u:=20,ca:=true},EB {k:=[100],g:=DG [114,111,111,116],l:=[[120,46,121]],f:=10,u:=14,ca:=true}]
 [120,46,121] 15 [DG [114,111,111,116]]!=0))else R (.bool false)else False else False else False):=by kernel_rfl
end Go.Proofs.YtebkeppoicllmaaDoor
