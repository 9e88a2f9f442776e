import Derived.Test.YthmnhjcmefjgjaaGreatDoorXAS
set_option linter.all false
set_option linter.unusedSectionVars false
set_option autoImplicit true
set_option relaxedAutoImplicit true
namespace Go.Proofs.YthmnhjcmefjgjaaGreatDoor
open Go Go.AM Go.ChangeShapes Go.WideShapes Go.ChangeAt Go.RowKit
set_option maxRecDepth 100000
theorem jq_0:(Rows.certCaughtRow.wf (OpenSpec.ofChange Rows.certCaughtSpec))=true:=by kernel_rfl
theorem jq_1:(laidOutB Tryz.prog)=true:=by kernel_rfl
theorem jq_2:(mapsRowed Tryz.prog)=true:=by kernel_rfl
theorem jq_3:(Tryz.f7.params.all (Tryz.prog.readableRec ·))=true:=by kernel_rfl
theorem jq_4:(namedTie Tryz.prog Rows.certCaughtRow.named Rows.certCaughtSpec.vars)=true:=by kernel_rfl
theorem jq_5:((Rows.certCaughtRow.stops==[]))=true:=by kernel_rfl
theorem jq_6:((Tryz.prog.stops==[]))=true:=by kernel_rfl
theorem jq_7:((Rows.certCaughtRow.knobs==[]))=true:=by kernel_rfl
theorem jq_8:((Tryz.prog.stopKnobs==[]))=true:=by kernel_rfl
theorem jq_9:((Rows.certCaughtRow.inPlace==Tryz.prog.inPlace 7))=true:=by kernel_rfl
theorem jq_10:((Rows.certCaughtRow.unfollowed==Tryz.prog.unfollowed 7))=true:=by kernel_rfl
theorem jq_11:((Rows.certCaughtRow.recurses==Tryz.prog.recurses 7))=true:=by kernel_rfl
theorem jq_12:((Rows.certCaughtRow.named==Tryz.prog.varsNamed 7))=true:=by kernel_rfl
theorem jq_13:((Rows.certCaughtRow.maps==(Tryz.f7.params.toList++Rows.certCaughtSpec.plain.varTypes Tryz.prog).any (Tryz.prog.mapsRec ·)))=true:=by kernel_rfl
theorem jq_14:((Rows.certCaughtRow.ifaces==(Tryz.f7.params.toList++Rows.certCaughtSpec.plain.varTypes Tryz.prog).any (Tryz.prog.ifacesRec ·)))=true:=by kernel_rfl
theorem jq_15:((Rows.certCaughtRow.mapsOut==Tryz.prog.mapsAmong Tryz.f7.resultTypes.toList))=true:=by kernel_rfl
theorem jq_16:((Rows.certCaughtRow.loops==(Tryz.f7.params.toList++Rows.certCaughtSpec.plain.varTypes Tryz.prog).any (Tryz.prog.loopsFrom ·)))=true:=by kernel_rfl
theorem jq_17:((Rows.certCaughtRow.wideKeys==(Tryz.f7.params.toList++Rows.certCaughtSpec.plain.varTypes Tryz.prog++Tryz.f7.resultTypes.toList).any (Tryz.prog.wideKeysFrom ·)))=true:=by kernel_rfl
theorem jq_18:(Rows.certCaughtSpec.vars.all (Tryz.prog.varReadable ·))=true:=by kernel_rfl
theorem jq_19:(Tryz.f7.resultTypes.all (fun t=>Tryz.prog.readableRec t&&decide (t<Tryz.prog.types.size)))=true:=by kernel_rfl
theorem jq_20:((Rows.certCaughtRow.ifacesOut==Tryz.f7.resultTypes.toList.any (Tryz.prog.ifacesRec ·)))=true:=by kernel_rfl
theorem jq_21:((Rows.certCaughtRow.loopsOut==Tryz.f7.resultTypes.toList.any (Tryz.prog.loopsFrom ·)))=true:=by kernel_rfl
theorem jq_22:((Rows.certCaughtRow.plainKeys==Tryz.prog.plainKeys))=true:=by kernel_rfl
theorem jq_23:(Rows.certCaughtRow.shortTexts.isNone)=true:=by kernel_rfl
theorem jq_24:(Tryz.prog.stopsHeard)=true:=by kernel_rfl
theorem jq_25:(Tryz.prog.mayEnter)=true:=by kernel_rfl
theorem jq_26:((Rows.certCaughtRow.lifted==Tryz.prog.liftsFinal))=true:=by kernel_rfl
theorem jq_27:((Tryz.prog.make==some Rows.certCaughtRow.make))=true:=by kernel_rfl
theorem jq_28:((Rows.certCaughtRow.kinds==(if Rows.certCaughtRow.domain.isEmpty then [] else Tryz.f7.params.toList.map fun t=>match Tryz.prog.underlying t with|some (.int k)=>some k|_=>none)))=true:=by kernel_rfl
theorem jq_29:((Rows.certCaughtRow.pinned==Rows.certCaughtRow.pinnedBy))=true:=by kernel_rfl
theorem jq_30:((Rows.certCaughtRow.veiled==(Tryz.f7.params.toList++Rows.certCaughtSpec.plain.varTypes Tryz.prog++Tryz.f7.resultTypes.toList).any (Tryz.prog.veiledRec ·)))=true:=by kernel_rfl
theorem jq_31:(Rows.certCaughtRow.veiledFits Tryz.prog Tryz.f7.params.toList (Tryz.f7.params.toList++Rows.certCaughtSpec.plain.varTypes Tryz.prog++Tryz.f7.resultTypes.toList))=true:=by kernel_rfl
end Go.Proofs.YthmnhjcmefjgjaaGreatDoor
