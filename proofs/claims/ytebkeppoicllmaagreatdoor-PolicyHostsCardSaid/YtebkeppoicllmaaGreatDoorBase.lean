/- The program: what the machine is told of its package variables (nothing). -/
import Derived.Test.YtebkeppoicllmaaGreatDoorVmc
import Derived.Test.YtebkeppoicllmaaGreatDoorVmc
import Derived.Test.YtebkeppoicllmaaGreatDoorRows
import Derived.KernelRfl
import Derived.IntWalk
namespace Go.Proofs.YtebkeppoicllmaaGreatDoor
open Go Go.Vm Go.RowKit
theorem bQ:Tryz.prog.follows .mixedOrders=true:=by kernel_rfl
instance gl:Glob:={n:=11,cells:=fun _=>none,more:=fun _=>(0,0)}
end Go.Proofs.YtebkeppoicllmaaGreatDoor
