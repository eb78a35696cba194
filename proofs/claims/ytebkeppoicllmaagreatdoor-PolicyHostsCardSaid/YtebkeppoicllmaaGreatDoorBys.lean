/- Rows of bytes: what is known of them; functions that look at memory. -/
import Derived.Test.YtebkeppoicllmaaGreatDoorBase
namespace Go.Proofs.YtebkeppoicllmaaGreatDoor
open Go Go.Vm Go.RowKit
set_option linter.unusedVariables false
set_option maxRecDepth 100000
set_option linter.unusedSectionVars false
variable [Φ:Frz]
noncomputable def T3:Tab:=⟨noT,noL,c8 9⟩
theorem T3_ok:TabOk3 Tryz.prog T3:=⟨cp,cr,be 9⟩
noncomputable def lookW(T:Tab)(g:Nat)(args:List V)(st:St)(R:V→St→Prop):Prop:=fnK Tryz.prog (cqT Tryz.prog T 9 10) (KG Tryz.prog T 9 10) (T.lks g st.length) g args st R
theorem lookW_ok{T:Tab}(hT:TabOk3 Tryz.prog T){g:Nat}{args:List V}{st:St}{R:V→St→Prop}(h:lookW T g args st R):FnSat Tryz.prog g args st R:=
 le bQ (lu bQ hT 9 10) (KG_ok bQ hT 10) (hT.lks g st.length) h
end Go.Proofs.YtebkeppoicllmaaGreatDoor
namespace Go.Vm
open Go.RowKit
set_option linter.unusedSectionVars false
variable [Φ:Frz]
theorem fb{σ:List Nat}{st:St}{c:Nat}{cs:List V}{t:TypeId}{sz:Nat}(h:av cs=true)(hc:st[c]?=some (.row cs t sz)):Blk.row cs t sz=.dead∨∃b',FitB σ (.row cs t sz) b'∧st[c]?=some b':=
 .inr ⟨.row cs t sz,.inl (by simp only[renB,br _ h]),hc⟩
end Go.Vm
namespace Go.Vm
open Go.RowKit
set_option linter.unusedSectionVars false
variable [Φ:Frz]
theorem j9{s r:List UInt8}{i:Nat}{a:UInt8}(h:s.drop i=a::r):s.getD i 0=a∧s.drop (i+1)=r∧i<s.length:=by
 have hl:i<s.length:=by
  have:(s.drop i).length=(a::r).length:=by rw[h]
  rw[List.length_drop,List.length_cons]at this;omega
 rw[List.drop_eq_getElem_cons hl]at h;cases h;exact⟨by rw[List.getD_eq_getElem?_getD,List.getElem?_eq_getElem hl,Option.getD_some],rfl,hl⟩
theorem drop_nil{s:List UInt8}{i:Nat}(h:s.drop i=[])(hi:i≤s.length):i=s.length:=by
 have:(s.drop i).length=0:=by rw[h];rfl
 rw[List.length_drop]at this;omega
end Go.Vm
