import Derived.Test.YthmnhjcmefjgjaaGreatDoorXAQ
set_option linter.all false
set_option linter.unusedSectionVars false
set_option autoImplicit true
set_option relaxedAutoImplicit true
namespace Go.Proofs.YthmnhjcmefjgjaaGreatDoor
open Go Go.AM Go.ChangeShapes Go.WideShapes Go.ChangeAt Go.RowKit
set_option maxRecDepth 100000
theorem jk_0:(Rows.certTracesRow.wf (OpenSpec.ofChange Rows.certTracesSpec))=true:=by kernel_rfl
theorem jk_1:(laidOutB Tryz.prog)=true:=by kernel_rfl
theorem jk_2:(mapsRowed Tryz.prog)=true:=by kernel_rfl
theorem jk_3:(Tryz.f11.params.all (Tryz.prog.readableRec ·))=true:=by kernel_rfl
theorem jk_4:(namedTie Tryz.prog Rows.certTracesRow.named Rows.certTracesSpec.vars)=true:=by kernel_rfl
theorem jk_5:((Rows.certTracesRow.stops==[]))=true:=by kernel_rfl
theorem jk_6:((Tryz.prog.stops==[]))=true:=by kernel_rfl
theorem jk_7:((Rows.certTracesRow.knobs==[]))=true:=by kernel_rfl
theorem jk_8:((Tryz.prog.stopKnobs==[]))=true:=by kernel_rfl
theorem jk_9:((Rows.certTracesRow.inPlace==Tryz.prog.inPlace 11))=true:=by kernel_rfl
theorem jk_10:((Rows.certTracesRow.unfollowed==Tryz.prog.unfollowed 11))=true:=by kernel_rfl
theorem jk_11:((Rows.certTracesRow.recurses==Tryz.prog.recurses 11))=true:=by kernel_rfl
theorem jk_12:((Rows.certTracesRow.named==Tryz.prog.varsNamed 11))=true:=by kernel_rfl
theorem jk_13:((Rows.certTracesRow.maps==(Tryz.f11.params.toList++Rows.certTracesSpec.plain.varTypes Tryz.prog).any (Tryz.prog.mapsRec ·)))=true:=by kernel_rfl
theorem jk_14:((Rows.certTracesRow.ifaces==(Tryz.f11.params.toList++Rows.certTracesSpec.plain.varTypes Tryz.prog).any (Tryz.prog.ifacesRec ·)))=true:=by kernel_rfl
theorem jk_15:((Rows.certTracesRow.mapsOut==Tryz.prog.mapsAmong Tryz.f11.resultTypes.toList))=true:=by kernel_rfl
theorem jk_16:((Rows.certTracesRow.loops==(Tryz.f11.params.toList++Rows.certTracesSpec.plain.varTypes Tryz.prog).any (Tryz.prog.loopsFrom ·)))=true:=by kernel_rfl
theorem jk_17:((Rows.certTracesRow.wideKeys==(Tryz.f11.params.toList++Rows.certTracesSpec.plain.varTypes Tryz.prog++Tryz.f11.resultTypes.toList).any (Tryz.prog.wideKeysFrom ·)))=true:=by kernel_rfl
theorem jk_18:(Rows.certTracesSpec.vars.all (Tryz.prog.varReadable ·))=true:=by kernel_rfl
theorem jk_19:(Tryz.f11.resultTypes.all (fun t=>Tryz.prog.readableRec t&&decide (t<Tryz.prog.types.size)))=true:=by kernel_rfl
theorem jk_20:((Rows.certTracesRow.ifacesOut==Tryz.f11.resultTypes.toList.any (Tryz.prog.ifacesRec ·)))=true:=by kernel_rfl
theorem jk_21:((Rows.certTracesRow.loopsOut==Tryz.f11.resultTypes.toList.any (Tryz.prog.loopsFrom ·)))=true:=by kernel_rfl
theorem jk_22:((Rows.certTracesRow.plainKeys==Tryz.prog.plainKeys))=true:=by kernel_rfl
theorem jk_23:(Rows.certTracesRow.shortTexts.isNone)=true:=by kernel_rfl
theorem jk_24:(Tryz.prog.stopsHeard)=true:=by kernel_rfl
theorem jk_25:(Tryz.prog.mayEnter)=true:=by kernel_rfl
theorem jk_26:((Rows.certTracesRow.lifted==Tryz.prog.liftsFinal))=true:=by kernel_rfl
theorem jk_27:((Tryz.prog.make==some Rows.certTracesRow.make))=true:=by kernel_rfl
theorem jk_28:((Rows.certTracesRow.kinds==(if Rows.certTracesRow.domain.isEmpty then [] else Tryz.f11.params.toList.map fun t=>match Tryz.prog.underlying t with|some (.int k)=>some k|_=>none)))=true:=by kernel_rfl
theorem jk_29:((Rows.certTracesRow.pinned==Rows.certTracesRow.pinnedBy))=true:=by kernel_rfl
theorem jk_30:((Rows.certTracesRow.veiled==(Tryz.f11.params.toList++Rows.certTracesSpec.plain.varTypes Tryz.prog++Tryz.f11.resultTypes.toList).any (Tryz.prog.veiledRec ·)))=true:=by kernel_rfl
theorem jk_31:(Rows.certTracesRow.veiledFits Tryz.prog Tryz.f11.params.toList (Tryz.f11.params.toList++Rows.certTracesSpec.plain.varTypes Tryz.prog++Tryz.f11.resultTypes.toList))=true:=by kernel_rfl
end Go.Proofs.YthmnhjcmefjgjaaGreatDoor
