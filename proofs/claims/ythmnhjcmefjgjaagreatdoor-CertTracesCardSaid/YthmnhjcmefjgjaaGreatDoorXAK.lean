import Derived.Test.YthmnhjcmefjgjaaGreatDoorProg
import Derived.KernelRfl
import Derived.Test.YthmnhjcmefjgjaaGreatDoorXAD
set_option linter.all false
set_option linter.unusedSectionVars false
set_option autoImplicit true
set_option relaxedAutoImplicit true
namespace Go.Proofs
open Go Go.AM
set_option maxRecDepth 100000
theorem Tryz.tysOk:AM.tysOk Tryz.prog=true:=by kernel_rfl
theorem Tryz.mixed:Tryz.prog.follows .mixedOrders=true:=by kernel_rfl
theorem Tryz.fnsOk:Tryz.prog.funcs.toList.all AM.fnOk=true:=by kernel_rfl
theorem Tryz.envOK {sum:FuncId->List Value->AH->Option (List (Value×AH))}:EnvOK (mkEnv Tryz.prog [(172,1),(284,2)] sum):=envOK_of Tryz.tysOk Tryz.fnsOk Tryz.mixed
end Go.Proofs
