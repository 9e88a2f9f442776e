/-
CertTexts: for whatever bond and text the law answers true: what Write writes is read back as the bond, and what Read reads is written so.
-/
import Derived.Test.YthmnhjcmefjgjaaGreatDoorXAN
set_option linter.all false
set_option linter.unusedSectionVars false
set_option autoImplicit true
set_option relaxedAutoImplicit true
namespace Go.Proofs.YthmnhjcmefjgjaaGreatDoor
open Go Go.AM Go.ChangeShapes Go.WideShapes Go.ChangeAt Go.RowKit
set_option maxRecDepth 100000
theorem certTexts_card_holds:Rows.CertTextsCardSaid:=
 Claim7.holds_tied_plain_at .later [] [.data,.data,.data,.data,.pinned] true (true,"578b08d891cace0eb6c0f6693ab8676fece35ad98d139ec7d8be82a3732ad6d6") false certTexts_holds (fun _ h=>by cases h) (by kernel_rfl) (fun _ h=>by cases h) certTexts_row_tie rfl ⟨rfl,rfl⟩ (by kernel_rfl) rfl
  (fun f fn hf hfn=>by
   obtain rfl:f=4:=Option.some.inj ((show Tryz.prog.funcNamed "madrigal/madrigallaw36.CertTexts"=some 4 by kernel_rfl).symm.trans hf) |>.symm
   obtain rfl:fn=Tryz.f4:=(Option.some.inj (Tryz.func4.symm.trans hfn)).symm
   exact ⟨by kernel_rfl,fun j t ht=>by
    rw [Tryz.params4] at ht
    have hm:t∈[32,9]:=by simpa using Array.mem_of_getElem? ht
    have hall:([32,9].all fun u=>!Tryz.prog.wantsStandIn u)=true:=by kernel_rfl
    exact (show Tryz.prog.wantsStandIn t=false by simpa using List.all_eq_true.1 hall t hm)⟩)
  (by kernel_rfl)
end Go.Proofs.YthmnhjcmefjgjaaGreatDoor
