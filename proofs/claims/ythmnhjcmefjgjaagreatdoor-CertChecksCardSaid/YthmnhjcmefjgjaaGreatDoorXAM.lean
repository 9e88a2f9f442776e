import Derived.Test.YthmnhjcmefjgjaaGreatDoorProg
import Derived.KernelRfl
import Derived.Test.YthmnhjcmefjgjaaGreatDoorXAD
set_option linter.all false
set_option linter.unusedSectionVars false
set_option autoImplicit true
set_option relaxedAutoImplicit true
set_option maxRecDepth 100000
set_option maxHeartbeats 1000000
namespace Go.Proofs
open Go Go.AM
def Tryz.tysOk:AM.tysOk Tryz.prog=true:=by kernel_rfl
def Tryz.mixed:Tryz.prog.follows .mixedOrders=true:=by kernel_rfl
def Tryz.fnsOk:Tryz.prog.funcs.toList.all AM.fnOk=true:=by kernel_rfl
def Tryz.envOK{sum:FuncId->List Value->AH->Option (List (Value×AH))}:zCt (zIl Tryz.prog [(172,1),(284,2)] sum):=zh8 Tryz.tysOk Tryz.fnsOk Tryz.mixed
end Go.Proofs
