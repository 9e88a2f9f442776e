import Derived.Test.YthmnhjcmefjgjaaGreatDoorXAR
set_option linter.all false
set_option linter.unusedSectionVars false
set_option autoImplicit true
set_option relaxedAutoImplicit true
namespace Go.Proofs.YthmnhjcmefjgjaaGreatDoor
open Go Go.AM Go.ChangeShapes Go.WideShapes Go.ChangeAt Go.RowKit
set_option maxRecDepth 100000
theorem ju_0:(Rows.certNothingRow.wf (OpenSpec.ofChange Rows.certNothingSpec))=true:=by kernel_rfl
theorem ju_1:(laidOutB Tryz.prog)=true:=by kernel_rfl
theorem ju_2:(mapsRowed Tryz.prog)=true:=by kernel_rfl
theorem ju_3:(Tryz.f8.params.all (Tryz.prog.readableRec ·))=true:=by kernel_rfl
theorem ju_4:(namedTie Tryz.prog Rows.certNothingRow.named Rows.certNothingSpec.vars)=true:=by kernel_rfl
theorem ju_5:((Rows.certNothingRow.stops==[]))=true:=by kernel_rfl
theorem ju_6:((Tryz.prog.stops==[]))=true:=by kernel_rfl
theorem ju_7:((Rows.certNothingRow.knobs==[]))=true:=by kernel_rfl
theorem ju_8:((Tryz.prog.stopKnobs==[]))=true:=by kernel_rfl
theorem ju_9:((Rows.certNothingRow.inPlace==Tryz.prog.inPlace 8))=true:=by kernel_rfl
theorem ju_10:((Rows.certNothingRow.unfollowed==Tryz.prog.unfollowed 8))=true:=by kernel_rfl
theorem ju_11:((Rows.certNothingRow.recurses==Tryz.prog.recurses 8))=true:=by kernel_rfl
theorem ju_12:((Rows.certNothingRow.named==Tryz.prog.varsNamed 8))=true:=by kernel_rfl
theorem ju_13:((Rows.certNothingRow.maps==(Tryz.f8.params.toList++Rows.certNothingSpec.plain.varTypes Tryz.prog).any (Tryz.prog.mapsRec ·)))=true:=by kernel_rfl
theorem ju_14:((Rows.certNothingRow.ifaces==(Tryz.f8.params.toList++Rows.certNothingSpec.plain.varTypes Tryz.prog).any (Tryz.prog.ifacesRec ·)))=true:=by kernel_rfl
theorem ju_15:((Rows.certNothingRow.mapsOut==Tryz.prog.mapsAmong Tryz.f8.resultTypes.toList))=true:=by kernel_rfl
theorem ju_16:((Rows.certNothingRow.loops==(Tryz.f8.params.toList++Rows.certNothingSpec.plain.varTypes Tryz.prog).any (Tryz.prog.loopsFrom ·)))=true:=by kernel_rfl
theorem ju_17:((Rows.certNothingRow.wideKeys==(Tryz.f8.params.toList++Rows.certNothingSpec.plain.varTypes Tryz.prog++Tryz.f8.resultTypes.toList).any (Tryz.prog.wideKeysFrom ·)))=true:=by kernel_rfl
theorem ju_18:(Rows.certNothingSpec.vars.all (Tryz.prog.varReadable ·))=true:=by kernel_rfl
theorem ju_19:(Tryz.f8.resultTypes.all (fun t=>Tryz.prog.readableRec t&&decide (t<Tryz.prog.types.size)))=true:=by kernel_rfl
theorem ju_20:((Rows.certNothingRow.ifacesOut==Tryz.f8.resultTypes.toList.any (Tryz.prog.ifacesRec ·)))=true:=by kernel_rfl
theorem ju_21:((Rows.certNothingRow.loopsOut==Tryz.f8.resultTypes.toList.any (Tryz.prog.loopsFrom ·)))=true:=by kernel_rfl
theorem ju_22:((Rows.certNothingRow.plainKeys==Tryz.prog.plainKeys))=true:=by kernel_rfl
theorem ju_23:(Rows.certNothingRow.shortTexts.isNone)=true:=by kernel_rfl
theorem ju_24:(Tryz.prog.stopsHeard)=true:=by kernel_rfl
theorem ju_25:(Tryz.prog.mayEnter)=true:=by kernel_rfl
theorem ju_26:((Rows.certNothingRow.lifted==Tryz.prog.liftsFinal))=true:=by kernel_rfl
theorem ju_27:((Tryz.prog.make==some Rows.certNothingRow.make))=true:=by kernel_rfl
theorem ju_28:((Rows.certNothingRow.kinds==(if Rows.certNothingRow.domain.isEmpty then [] else Tryz.f8.params.toList.map fun t=>match Tryz.prog.underlying t with|some (.int k)=>some k|_=>none)))=true:=by kernel_rfl
theorem ju_29:((Rows.certNothingRow.pinned==Rows.certNothingRow.pinnedBy))=true:=by kernel_rfl
theorem ju_30:((Rows.certNothingRow.veiled==(Tryz.f8.params.toList++Rows.certNothingSpec.plain.varTypes Tryz.prog++Tryz.f8.resultTypes.toList).any (Tryz.prog.veiledRec ·)))=true:=by kernel_rfl
theorem ju_31:(Rows.certNothingRow.veiledFits Tryz.prog Tryz.f8.params.toList (Tryz.f8.params.toList++Rows.certNothingSpec.plain.varTypes Tryz.prog++Tryz.f8.resultTypes.toList))=true:=by kernel_rfl
end Go.Proofs.YthmnhjcmefjgjaaGreatDoor
