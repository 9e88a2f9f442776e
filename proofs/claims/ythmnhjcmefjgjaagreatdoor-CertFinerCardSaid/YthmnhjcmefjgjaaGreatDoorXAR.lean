/-
For all transition systems l, m and all lists of pairs: the law CertFiner returns true (a link that relates with CkStrong relates with CkBranch; without internal labels both are the same), and each argument reads behind the call as it read before.
Conditions: those of the given row and card alone (the listed variables of Go's library hold what the program's text lays).
-/
import Derived.Test.YthmnhjcmefjgjaaGreatDoorXAQ
section
set_option linter.all false
set_option autoImplicit true
set_option relaxedAutoImplicit true
namespace Go.Proofs.YthmnhjcmefjgjaaGreatDoor
open Go Go.AM Go.ChangeShapes Go.WideShapes Go.ChangeAt Go.RowKit
set_option linter.all false
set_option maxRecDepth 100000
theorem certFiner_card_holds : Rows.CertFinerCardSaid :=
  Claim7.holds_tied_plain_at .later [] [.data, .data, .data, .data, .pinned] true (true, "578b08d891cace0eb6c0f6693ab8676fece35ad98d139ec7d8be82a3732ad6d6") false certFiner_holds (fun _ h => by cases h) (by kernel_rfl) (fun _ h => by cases h) certFiner_row_tie rfl ⟨rfl, rfl⟩ (by kernel_rfl) rfl
    (fun f fn hf hfn => by
      obtain rfl : f = 3 := Option.some.inj ((show Tryz.prog.funcNamed "madrigal/madrigallaw36.CertFiner" = some 3 by kernel_rfl).symm.trans hf) |>.symm
      obtain rfl : fn = Tryz.f3 := (Option.some.inj (Tryz.func3.symm.trans hfn)).symm
      exact ⟨by kernel_rfl, fun j t ht => by
        rw [Tryz.params3] at ht
        have hm : t ∈ [25, 25, 26] := by simpa using Array.mem_of_getElem? ht
        have hall : ([25, 25, 26].all fun u => !Tryz.prog.wantsStandIn u) = true := by kernel_rfl
        exact (show Tryz.prog.wantsStandIn t = false by simpa using List.all_eq_true.1 hall t hm)⟩)
    (by kernel_rfl)
end Go.Proofs.YthmnhjcmefjgjaaGreatDoor
end
