/-
For all transition systems l and m, every bond r and all states s and t, laid anywhere in memory, the law CertCaught of the given program (in the pruned copy that the seat speaks of) returns true, does not panic and leaves the memory that was there as it was: an accepted link without the pair 0, 0, with a pair with a state that a system does not have, or with a pair of states of which just one can show a visible label, is refused.
Conditions: none beyond those of the given statement.
-/
import Derived.Test.YthmnhjcmefjgjaaGreatDoorXAU
set_option linter.all false
set_option linter.unusedSectionVars false
set_option autoImplicit true
set_option relaxedAutoImplicit true
namespace Go.Proofs.YthmnhjcmefjgjaaGreatDoor
open Go Go.AM Go.ChangeShapes Go.WideShapes Go.ChangeAt Go.RowKit
set_option maxRecDepth 100000
theorem certCaught_card_holds:Rows.CertCaughtCardSaid:=
 Claim7.holds_tied_plain_at .later [] [.data,.data,.data,.data,.pinned] true (true,"578b08d891cace0eb6c0f6693ab8676fece35ad98d139ec7d8be82a3732ad6d6") false zGO (fun _ h=>by cases h) (by kernel_rfl) (fun _ h=>by cases h) certCaught_row_tie rfl ⟨rfl,rfl⟩ (by kernel_rfl) rfl
  (fun f fn hf hfn=>by
   obtain rfl:f=7:=Option.some.inj ((show Tryz.prog.funcNamed "madrigal/madrigallaw36.CertCaught"=some 7 by kernel_rfl).symm.trans hf) |>.symm
   obtain rfl:fn=Tryz.f7:=(Option.some.inj (Tryz.func7.symm.trans hfn)).symm
   exact ⟨by kernel_rfl,fun j t ht=>by
    rw [Tryz.params7] at ht
    have hm:t∈[25,25,32,3,3]:=by simpa using Array.mem_of_getElem? ht
    have hall:([25,25,32,3,3].all fun u=>!Tryz.prog.wantsStandIn u)=true:=by kernel_rfl
    exact (show Tryz.prog.wantsStandIn t=false by simpa using List.all_eq_true.1 hall t hm)⟩)
  (by kernel_rfl)
end Go.Proofs.YthmnhjcmefjgjaaGreatDoor
