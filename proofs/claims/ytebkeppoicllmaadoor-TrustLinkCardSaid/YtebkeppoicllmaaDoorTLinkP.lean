/- What is read of certificates' bytes: the certificates, or a beginning of them. -/
import Derived.Test.YtebkeppoicllmaaDoorTLink
import Derived.Test.YtebkeppoicllmaaDoorEncDec
namespace Go.Proofs.YtebkeppoicllmaaDoor
open Go Go.Vm Go.RowKit
set_option linter.unusedVariables false
set_option maxRecDepth 100000
set_option linter.unusedSectionVars false
variable [Φ:Frz]
theorem judge_anch{h:List UInt8}{now:Int}{an:List (List UInt8)}{L:List CR}(hj:dO h now an L=0):aX now an none L=true:=by
 cases L with
 |nil=>cases hj
 |cons c r=>
  rw[dO]at hj;cases h1:(!aS c.f c.u now)with
  |true=>rw[h1]at hj;cases hj
  |false=>
  cases h2:(!hasH c.l h)with
  |true=>rw[h1,h2]at hj;cases hj
  |false=>
  cases h3:aX now an none (c::r)with
  |true=>rfl
  |false=>rw[h1,h2,h3]at hj;cases hj
theorem anch_ext{now:Int}{an:List (List UInt8)}(E:List CR):∀(L:List CR) (p:Option CR),aX now an p L=true→aX now an p (L++E)=true
 |[],p,h=>by cases h
 |d::r,p,h=>by
  rw[List.cons_append,aX,Bool.and_eq_true,Bool.and_eq_true,Bool.or_eq_true];rw[aX,Bool.and_eq_true,Bool.and_eq_true,Bool.or_eq_true]at h;refine⟨h.1,h.2.1,?_⟩;rcases h.2.2 with h|h
  ·exact .inl h
  ·exact .inr (anch_ext E r _ h)
theorem dec_none:decR []=none:=by kernel_rfl
theorem enc_no{c:CR}(h:eE c≠0):eB c=[]:=by
 unfold eE encE at h;unfold eB encB;cases h1:fu c.k c.g c.l c.f c.u with
 |false=>rfl
 |true=>
  rw[h1,cond_true]at h;rw[cond_true];cases h2:decide (((putB 48 (dy c.k c.g c.l c.f c.u c.ca)).length:Int)>512)with
  |true=>rfl
  |false=>rw[h2]at h;exact absurd rfl h
theorem dec_eB{c:CR}{d:CD}(h:decR (eB c)=some d):eE c=0:=by
 by_cases h1:eE c=0
 ·exact h1
 ·rw[enc_no h1,dec_none]at h;cases h
theorem cr_eB{c:CR}(h:eE c=0):crOf (eB c)=c:=by
 have h1:decR (eB c)=some ⟨c.k,c.g,c.l,c.f,c.u,c.ca⟩:=enc_dec h;unfold crOf dK dG dL dF dU dCa dCd;rw[h1];rfl
theorem good_pre:∀L:List CR,∃E,L=(fM (L.map eB)).map crOf++E
 |[]=>⟨[],rfl⟩
 |c::r=>by
  obtain⟨E,h⟩:=good_pre r;rw[List.map_cons,fM];cases hd:(decE (eB c)==0)with
  |false=>exact⟨c::r,rfl⟩
  |true=>
   obtain⟨d,hd⟩:=(jy (eB c)).1 (eq_of_beq hd);have e:=cr_eB (dec_eB hd);refine⟨E,?_⟩;rw[cond_true,List.map_cons,List.cons_append,e,←h]
theorem sent_pre(L:List CR):∃E,L=fH (L.map eB)++E:=by
 obtain⟨E,h⟩:=good_pre (L.take 4);refine⟨E++L.drop 4,?_⟩;unfold fH ko;rw[←List.map_take,←List.append_assoc,←h,List.take_append_drop]
theorem sent_bad{h:List UInt8}{now:Int}{an:List (List UInt8)}{L:List CR}(hb:aX now an none L=false):(jgV (L.map eB) h now an==0)=false:=by
 cases hj:(jgV (L.map eB) h now an==0)with
 |false=>rfl
 |true=>
  obtain⟨E,hE⟩:=sent_pre L;have:=anch_ext E _ none (judge_anch (eq_of_beq hj));rw[←hE,hb]at this;cases this
end Go.Proofs.YtebkeppoicllmaaDoor
