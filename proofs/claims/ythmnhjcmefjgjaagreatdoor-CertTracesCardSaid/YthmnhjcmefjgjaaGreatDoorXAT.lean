/-
Two transition systems that an accepted link relates have the same traces of visible labels, whatever the arguments; nothing is written.
-/
import Derived.Test.YthmnhjcmefjgjaaGreatDoorXAS
set_option linter.all false
set_option linter.unusedSectionVars false
set_option autoImplicit true
set_option relaxedAutoImplicit true
namespace Go.Proofs.YthmnhjcmefjgjaaGreatDoor
open Go Go.AM Go.ChangeShapes Go.WideShapes Go.ChangeAt Go.RowKit
set_option maxRecDepth 100000
theorem kq2:Tryz.prog.mainIs=some (true,"578b08d891cace0eb6c0f6693ab8676fece35ad98d139ec7d8be82a3732ad6d6".toList):=by kernel_rfl
theorem kq4:Tryz.prog.funcNamed "madrigal/madrigallaw36.CertTraces"=some 11:=by kernel_rfl
theorem kq6:false=Tryz.prog.looks []:=by kernel_rfl
theorem kq7:false=Rows.certTracesRow.goesBy Tryz.prog:=by kernel_rfl
theorem certTraces_card_holds:Rows.CertTracesCardSaid:=
 Claim7.holds_tied_plain_at .later [] [.data,.data,.data,.data,.pinned] true (true,"578b08d891cace0eb6c0f6693ab8676fece35ad98d139ec7d8be82a3732ad6d6") false certTraces_holds (fun _ h=>by cases h) (by kernel_rfl) (fun _ h=>by cases h) certTraces_row_tie rfl ⟨rfl,rfl⟩ kq2 rfl
  (fun f fn hf hfn=>by
   obtain rfl:f=11:=Option.some.inj (kq4.symm.trans hf) |>.symm
   obtain rfl:fn=Tryz.f11:=(Option.some.inj (Tryz.func11.symm.trans hfn)).symm
   exact ⟨kq6,fun j t ht=>by
    rw [Tryz.params11] at ht
    have hm:t∈[25,25,32]:=by simpa using Array.mem_of_getElem? ht
    have hall:([25,25,32].all fun u=>!Tryz.prog.wantsStandIn u)=true:=by kernel_rfl
    exact (show Tryz.prog.wantsStandIn t=false by simpa using List.all_eq_true.1 hall t hm)⟩)
  kq7
end Go.Proofs.YthmnhjcmefjgjaaGreatDoor
