/- Truth values as bytes: what they come to. -/
import Derived.Test.YtebkeppoicllmaaDoorDFns
namespace Go.Proofs.YtebkeppoicllmaaDoor
open Go Go.Vm Go.RowKit
set_option linter.unusedSectionVars false
variable [Φ:Frz]
set_option linter.unusedVariables false
set_option maxRecDepth 100000
noncomputable def DT13:Tab:=⟨noT,noL,bf 9⟩
theorem DT13_ok:TabOk3 Tryd.prog DT13:=⟨aL,aM,au 9⟩
theorem bool_tree(b:Bool)(R:V→Prop):runW Tryd.prog DT13 9 10 32 [.bool b] R=
  (
 bif b then R (.str [255])else R (.str [0])):=by kernel_rfl
theorem rdbool_tree(s:List UInt8)(R:V→Prop):runW Tryd.prog DT13 9 10 45 [.str s] R=
  (
 bif !s==[255]then bif !s==[0]then R (.tuple [.bool false,.int IntKind.i64 4])else R (.tuple [.bool (s==[255]),.int IntKind.i64 0])else R (.tuple
 [.bool (s==[255]),.int IntKind.i64 0])):=by kernel_rfl
def dW(b:Bool):List UInt8:=bif b then[255]else[0]
def boolF:List V→Option V
 |[.bool b]=>some (.str (dW b))
 |_=>none
theorem bool_ok(args:List V)(v:V)(h:boolF args=some v):FnSat Tryd.prog 32 args [] (Is (v,[])):=by
 unfold boolF at h;split at h
 ·rename_i b;cases h;refine aJ (lim:=9) (n:=10) aH DT13_ok rfl rfl ?_;rw[bool_tree];cases b<;>rfl
 ·cases h
def rbE(s:List UInt8):Int:=if s=[255]∨s=[0]then 0 else 4
def oi:List V→Option V
 |[.str s]=>some (.tuple [.bool (s==[255]),.int .i64 (rbE s)])
 |_=>none
theorem rdbool_ok(args:List V)(v:V)(h:oi args=some v):FnSat Tryd.prog 45 args [] (Is (v,[])):=by
 unfold oi at h;split at h
 ·rename_i s;cases h;refine aJ (lim:=9) (n:=10) aH DT13_ok rfl rfl ?_;rw[rdbool_tree];by_cases h1:s=[255]
  ·subst h1;rfl
  ·have e1:(s==[255])=false:=by simpa using h1
   by_cases h2:s=[0]
   ·subst h2;rfl
   ·have e2:(s==[0])=false:=by simpa using h2
    have e3:rbE s=4:=by unfold rbE;rw[if_neg (by simp[h1,h2])]
    rw[e1,e2,e3];rfl
 ·cases h
end Go.Proofs.YtebkeppoicllmaaDoor
