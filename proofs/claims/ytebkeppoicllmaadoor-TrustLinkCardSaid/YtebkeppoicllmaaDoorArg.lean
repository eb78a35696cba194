/- The laws of this seat: the arguments as they lie there; the walks. -/
import Derived.Test.YtebkeppoicllmaaDoorTLinkL
import Derived.Test.YtebkeppoicllmaaDoorVmc
import Derived.Test.YtebkeppoicllmaaDoorRows
import Derived.WalkKit
import Derived.ProofKit
import Derived.OpenShut
import Derived.ShutString
import Derived.SizedLaws
namespace Go.Proofs.YtebkeppoicllmaaDoor
open Go Go.Vm Go.RowKit
open Go.ChangeShapes Go.WideShapes Go.ChangeAt
set_option linter.unusedVariables false
set_option linter.unusedSectionVars false
set_option maxRecDepth 100000
theorem bytes_str{w:World}(s:ByteArray):@real gl (Frz.of w) [] (.str s.data.toList)=some (.string s):=by simp[real]
theorem le(a0:Int)(a1:Int)(a2:Int)(a3:ByteArray)(w:World)(w0:(Lit.int .i64 a0).wf=true)(w1:(Lit.int .i64 a1).wf=true)(w2:(Lit.int .u8 a2).wf=true)(w3:a3.size≤maxLen)(hg:@GOk gl (Frz.of w) w.heap.size w):
  Calls Tryd.prog 3 #[.int .i64 a0,.int .i64 a1,.int .u8 a2,.string a3] w (fun e w'=>e=.returned (.bool true)∧Below w.heap.size w w'):=by
 refine @frz_law gl Tryd.prog 3 [.int .i64 a0,.int .i64 a1,.int .u8 a2,.str a3.data.toList] [.int .i64 a0,.int .i64 a1,.int .u8 a2,.string a3] w (@tl_close (Frz.of w) a0 a1 a2 a3.data.toList) ?_ hg;simp only[af,bytes_str]
 try rfl
end Go.Proofs.YtebkeppoicllmaaDoor
