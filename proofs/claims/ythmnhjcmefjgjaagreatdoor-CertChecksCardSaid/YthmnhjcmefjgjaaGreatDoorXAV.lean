/-
Check, Classes, Pairs and Identity of cert match the specification, for all transition systems, links, classes and kinds within the bounds of the statement; in every memory, nothing older is changed. The listed variables are tied to the pruned copy of the program.
-/
import Derived.Test.YthmnhjcmefjgjaaGreatDoorXAU
set_option linter.all false
set_option linter.unusedSectionVars false
set_option autoImplicit true
set_option relaxedAutoImplicit true
set_option maxRecDepth 100000
set_option maxHeartbeats 1000000
namespace Go.Proofs.YthmnhjcmefjgjaaGreatDoor
open Go Go.AM Go.ChangeShapes Go.WideShapes Go.ChangeAt Go.RowKit
def jq2:Tryz.prog.mainIs=some (true,"578b08d891cace0eb6c0f6693ab8676fece35ad98d139ec7d8be82a3732ad6d6".toList):=by kernel_rfl
def jq4:Tryz.prog.funcNamed "madrigal/madrigallaw36.CertChecks"=some 9:=by kernel_rfl
def jq6:false=Tryz.prog.looks []:=by kernel_rfl
def jq7:false=Rows.certChecksRow.goesBy Tryz.prog:=by kernel_rfl
theorem certChecks_card_holds:Rows.CertChecksCardSaid:=
 Claim7.holds_tied_plain_at .later [] [.data,.data,.data,.data,.pinned] true (true,"578b08d891cace0eb6c0f6693ab8676fece35ad98d139ec7d8be82a3732ad6d6") false zHr (λ _ h=>by cases h) (by kernel_rfl) (λ _ h=>by cases h) certChecks_row_tie rfl ⟨rfl,rfl⟩ jq2 rfl
  (λ f fn hf iV=>by
   obtain rfl:f=9:=xCc (jq4.symm.trans hf) |>.symm;obtain rfl:fn=Tryz.f9:=(xCc (Tryz.func9.symm.trans iV)).symm;exact⟨jq6,λ j t ht=>by
    rw[Tryz.params9] at ht;have hm:t∈[25,25,32,47]:=by simpa using Array.mem_of_getElem? ht
    have aD:([25,25,32,47].all λ u=>!Tryz.prog.wantsStandIn u)=true:=by kernel_rfl
    exact (show Tryz.prog.wantsStandIn t=false by simpa using xCB.1 aD t hm)⟩)
  jq7
end Go.Proofs.YthmnhjcmefjgjaaGreatDoor
