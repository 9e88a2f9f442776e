/-
Proves that the law CertClasses of layer 36 returns true for all arguments: the full statement, no conditions.
-/
import Derived.Test.YthmnhjcmefjgjaaGreatDoorXAV
set_option linter.all false
set_option linter.unusedSectionVars false
set_option autoImplicit true
set_option relaxedAutoImplicit true
set_option maxRecDepth 100000
set_option maxHeartbeats 1000000
namespace Go.Proofs.YthmnhjcmefjgjaaGreatDoor
open Go Go.AM Go.ChangeShapes Go.WideShapes Go.ChangeAt Go.RowKit
theorem certClasses_card_holds:Rows.CertClassesCardSaid:=
 Claim7.holds_tied_plain_at .later [] [.data,.data,.data,.data,.pinned] true (true,"578b08d891cace0eb6c0f6693ab8676fece35ad98d139ec7d8be82a3732ad6d6") false zGn (fun _ h=>by cases h) (by kernel_rfl) (fun _ h=>by cases h) certClasses_row_tie rfl ⟨rfl,rfl⟩ (by kernel_rfl) rfl
  (fun f fn hf gz=>by
   obtain rfl:f=6:=Option.some.inj ((show Tryz.prog.funcNamed "madrigal/madrigallaw36.CertClasses"=some 6 by kernel_rfl).symm.trans hf) |>.symm;obtain rfl:fn=Tryz.f6:=(Option.some.inj (Tryz.func6.symm.trans gz)).symm;exact⟨by kernel_rfl,fun j t ht=>by
    rw[Tryz.params6] at ht;have hm:t∈[3,25,25,47]:=by simpa using Array.mem_of_getElem? ht
    have aB:([3,25,25,47].all fun u=>!Tryz.prog.wantsStandIn u)=true:=by kernel_rfl
    exact (show Tryz.prog.wantsStandIn t=false by simpa using List.all_eq_true.1 aB t hm)⟩)
  (by kernel_rfl)
end Go.Proofs.YthmnhjcmefjgjaaGreatDoor
