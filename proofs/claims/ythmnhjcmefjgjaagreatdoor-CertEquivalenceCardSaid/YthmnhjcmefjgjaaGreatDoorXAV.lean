/-
The law CertEquivalence answers true at every input.
-/
import Derived.Test.YthmnhjcmefjgjaaGreatDoorXAU
set_option linter.all false
set_option linter.unusedSectionVars false
set_option autoImplicit true
set_option relaxedAutoImplicit true
namespace Go.Proofs.YthmnhjcmefjgjaaGreatDoor
open Go Go.AM Go.ChangeShapes Go.WideShapes Go.ChangeAt Go.RowKit
set_option maxRecDepth 100000
theorem certEquivalence_card_holds:Rows.CertEquivalenceCardSaid:=
 Claim7.holds_tied_plain_at .later [] [.data,.data,.data,.data,.pinned] true (true,"578b08d891cace0eb6c0f6693ab8676fece35ad98d139ec7d8be82a3732ad6d6") false zEN (fun _ h=>by cases h) (by kernel_rfl) (fun _ h=>by cases h) certEquivalence_row_tie rfl ⟨rfl,rfl⟩ (by kernel_rfl) rfl
  (fun f fn hf eQ=>by
   obtain rfl:f=10:=Option.some.inj ((show Tryz.prog.funcNamed "madrigal/madrigallaw36.CertEquivalence"=some 10 by kernel_rfl).symm.trans hf) |>.symm
   obtain rfl:fn=Tryz.f10:=(Option.some.inj (Tryz.func10.symm.trans eQ)).symm
   exact ⟨by kernel_rfl,fun j t ht=>by
    rw [Tryz.params10] at ht
    have hm:t∈[25,25,25,32,32,32]:=by simpa using Array.mem_of_getElem? ht
    have aA:([25,25,25,32,32,32].all fun u=>!Tryz.prog.wantsStandIn u)=true:=by kernel_rfl
    exact (show Tryz.prog.wantsStandIn t=false by simpa using List.all_eq_true.1 aA t hm)⟩)
  (by kernel_rfl)
end Go.Proofs.YthmnhjcmefjgjaaGreatDoor
