/- Rows of bytes: what is known of them; functions that look at memory. -/
import Derived.Test.YtebkeppoicllmaaDoorSum2
namespace Go.Proofs.YtebkeppoicllmaaDoor
open Go Go.Vm Go.RowKit
set_option linter.unusedVariables false
set_option maxRecDepth 100000
set_option linter.unusedSectionVars false
variable [Φ:Frz]
noncomputable def T3:Tab:=⟨noT,noL,bf 9⟩
theorem T3_ok:TabOk3 Tryd.prog T3:=⟨aL,aM,au 9⟩
def okL(s:List UInt8):Bool:=decide ((s.length:Int)≤99999)
theorem okL_le{s:List UInt8}(h:okL s=true):(s.length:Int)≤99999:=of_decide_eq_true h
noncomputable def lookW(T:Tab)(g:Nat)(args:List V)(st:St)(R:V→St→Prop):Prop:=fnK Tryd.prog (cqT Tryd.prog T 9 10) (KG Tryd.prog T 9 10) (T.lks g st.length) g args st R
theorem lookW_ok{T:Tab}(hT:TabOk3 Tryd.prog T){g:Nat}{args:List V}{st:St}{R:V→St→Prop}(h:lookW T g args st R):FnSat Tryd.prog g args st R:=
 jr aH (j9 aH hT 9 10) (mD aH hT 10) (hT.lks g st.length) h
end Go.Proofs.YtebkeppoicllmaaDoor
namespace Go.Vm
open Go.RowKit
set_option linter.unusedSectionVars false
variable [Φ:Frz]
def bys(l:List UInt8):List V:=l.map fun b=>.int .u8 (b.toNat:Int)
theorem bys_len(l:List UInt8):(bys l).length=l.length:=by unfold bys;rw[List.length_map]
theorem bys_flat:∀l:List UInt8,ax (bys l)=true
 |[]=>rfl
 |c::r=>by
  have ih:=bys_flat r;unfold bys at ih ⊢;rw[List.map_cons,ax,ih];rfl
theorem fb{σ:List Nat}{st:St}{c:Nat}{cs:List V}{t:TypeId}{sz:Nat}(h:ax cs=true)(hc:st[c]?=some (.row cs t sz)):Blk.row cs t sz=.dead∨∃b',FitB σ (.row cs t sz) b'∧st[c]?=some b':=
 .inr ⟨.row cs t sz,.inl (by simp only[renB,av _ h]),hc⟩
end Go.Vm
namespace Go.Vm
open Go.RowKit
set_option linter.unusedSectionVars false
variable [Φ:Frz]
theorem nH{s r:List UInt8}{i:Nat}{a:UInt8}(h:s.drop i=a::r):s.getD i 0=a∧s.drop (i+1)=r∧i<s.length:=by
 have hl:i<s.length:=by
  have:(s.drop i).length=(a::r).length:=by rw[h]
  rw[List.length_drop,List.length_cons]at this;omega
 rw[List.drop_eq_getElem_cons hl]at h;cases h;exact⟨by rw[List.getD_eq_getElem?_getD,List.getElem?_eq_getElem hl,Option.getD_some],rfl,hl⟩
theorem drop_nil{s:List UInt8}{i:Nat}(h:s.drop i=[])(hi:i≤s.length):i=s.length:=by
 have:(s.drop i).length=0:=by rw[h];rfl
 rw[List.length_drop]at this;omega
theorem bys_ln(o:List UInt8):(List.map (fun b:UInt8=>V.int .u8 (b.toNat:Int)) o).length=o.length:=List.length_map ..
end Go.Vm
