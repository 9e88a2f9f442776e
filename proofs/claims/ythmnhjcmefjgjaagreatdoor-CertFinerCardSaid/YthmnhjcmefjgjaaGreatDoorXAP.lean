import Derived.Test.YthmnhjcmefjgjaaGreatDoorXAO
section
set_option linter.all false
set_option autoImplicit true
set_option relaxedAutoImplicit true
namespace Go.Proofs.YthmnhjcmefjgjaaGreatDoor
open Go Go.AM Go.ChangeShapes Go.WideShapes Go.ChangeAt Go.RowKit
set_option linter.all false
set_option maxRecDepth 100000
theorem jf_0 : (Rows.certFinerRow.wf (OpenSpec.ofChange Rows.certFinerSpec)) = true := by kernel_rfl
theorem jf_1 : (laidOutB Tryz.prog) = true := by kernel_rfl
theorem jf_2 : (mapsRowed Tryz.prog) = true := by kernel_rfl
theorem jf_3 : (Tryz.f3.params.all (Tryz.prog.readableRec ·)) = true := by kernel_rfl
theorem jf_4 : (namedTie Tryz.prog Rows.certFinerRow.named Rows.certFinerSpec.vars) = true := by kernel_rfl
theorem jf_5 : ((Rows.certFinerRow.stops == [])) = true := by kernel_rfl
theorem jf_6 : ((Tryz.prog.stops == [])) = true := by kernel_rfl
theorem jf_7 : ((Rows.certFinerRow.knobs == [])) = true := by kernel_rfl
theorem jf_8 : ((Tryz.prog.stopKnobs == [])) = true := by kernel_rfl
theorem jf_9 : ((Rows.certFinerRow.inPlace == Tryz.prog.inPlace 3)) = true := by kernel_rfl
theorem jf_10 : ((Rows.certFinerRow.unfollowed == Tryz.prog.unfollowed 3)) = true := by kernel_rfl
theorem jf_11 : ((Rows.certFinerRow.recurses == Tryz.prog.recurses 3)) = true := by kernel_rfl
theorem jf_12 : ((Rows.certFinerRow.named == Tryz.prog.varsNamed 3)) = true := by kernel_rfl
theorem jf_13 : ((Rows.certFinerRow.maps == (Tryz.f3.params.toList ++ Rows.certFinerSpec.plain.varTypes Tryz.prog).any (Tryz.prog.mapsRec ·))) = true := by kernel_rfl
theorem jf_14 : ((Rows.certFinerRow.ifaces == (Tryz.f3.params.toList ++ Rows.certFinerSpec.plain.varTypes Tryz.prog).any (Tryz.prog.ifacesRec ·))) = true := by kernel_rfl
theorem jf_15 : ((Rows.certFinerRow.mapsOut == Tryz.prog.mapsAmong Tryz.f3.resultTypes.toList)) = true := by kernel_rfl
theorem jf_16 : ((Rows.certFinerRow.loops == (Tryz.f3.params.toList ++ Rows.certFinerSpec.plain.varTypes Tryz.prog).any (Tryz.prog.loopsFrom ·))) = true := by kernel_rfl
theorem jf_17 : ((Rows.certFinerRow.wideKeys == (Tryz.f3.params.toList ++ Rows.certFinerSpec.plain.varTypes Tryz.prog ++ Tryz.f3.resultTypes.toList).any (Tryz.prog.wideKeysFrom ·))) = true := by kernel_rfl
theorem jf_18 : (Rows.certFinerSpec.vars.all (Tryz.prog.varReadable ·)) = true := by kernel_rfl
theorem jf_19 : (Tryz.f3.resultTypes.all (fun t => Tryz.prog.readableRec t && decide (t < Tryz.prog.types.size))) = true := by kernel_rfl
theorem jf_20 : ((Rows.certFinerRow.ifacesOut == Tryz.f3.resultTypes.toList.any (Tryz.prog.ifacesRec ·))) = true := by kernel_rfl
theorem jf_21 : ((Rows.certFinerRow.loopsOut == Tryz.f3.resultTypes.toList.any (Tryz.prog.loopsFrom ·))) = true := by kernel_rfl
theorem jf_22 : ((Rows.certFinerRow.plainKeys == Tryz.prog.plainKeys)) = true := by kernel_rfl
theorem jf_23 : (Rows.certFinerRow.shortTexts.isNone) = true := by kernel_rfl
theorem jf_24 : (Tryz.prog.stopsHeard) = true := by kernel_rfl
theorem jf_25 : (Tryz.prog.mayEnter) = true := by kernel_rfl
theorem jf_26 : ((Rows.certFinerRow.lifted == Tryz.prog.liftsFinal)) = true := by kernel_rfl
theorem jf_27 : ((Tryz.prog.make == some Rows.certFinerRow.make)) = true := by kernel_rfl
theorem jf_28 : ((Rows.certFinerRow.kinds == (if Rows.certFinerRow.domain.isEmpty then [] else Tryz.f3.params.toList.map fun t => match Tryz.prog.underlying t with | some (.int k) => some k | _ => none))) = true := by kernel_rfl
theorem jf_29 : ((Rows.certFinerRow.pinned == Rows.certFinerRow.pinnedBy)) = true := by kernel_rfl
theorem jf_30 : ((Rows.certFinerRow.veiled == (Tryz.f3.params.toList ++ Rows.certFinerSpec.plain.varTypes Tryz.prog ++ Tryz.f3.resultTypes.toList).any (Tryz.prog.veiledRec ·))) = true := by kernel_rfl
theorem jf_31 : (Rows.certFinerRow.veiledFits Tryz.prog Tryz.f3.params.toList (Tryz.f3.params.toList ++ Rows.certFinerSpec.plain.varTypes Tryz.prog ++ Tryz.f3.resultTypes.toList)) = true := by kernel_rfl
end Go.Proofs.YthmnhjcmefjgjaaGreatDoor
end
