import Derived.Test.YthmnhjcmefjgjaaGreatDoorXAR
set_option linter.all false
set_option linter.unusedSectionVars false
set_option autoImplicit true
set_option relaxedAutoImplicit true
namespace Go.Proofs.YthmnhjcmefjgjaaGreatDoor
open Go Go.AM Go.ChangeShapes Go.WideShapes Go.ChangeAt Go.RowKit
set_option maxRecDepth 100000
theorem jr_0:(Rows.certRunsRow.wf (OpenSpec.ofChange Rows.certRunsSpec))=true:=by kernel_rfl
theorem jr_1:(laidOutB Tryz.prog)=true:=by kernel_rfl
theorem jr_2:(mapsRowed Tryz.prog)=true:=by kernel_rfl
theorem jr_3:(Tryz.f5.params.all (Tryz.prog.readableRec ·))=true:=by kernel_rfl
theorem jr_4:(namedTie Tryz.prog Rows.certRunsRow.named Rows.certRunsSpec.vars)=true:=by kernel_rfl
theorem jr_5:((Rows.certRunsRow.stops==[]))=true:=by kernel_rfl
theorem jr_6:((Tryz.prog.stops==[]))=true:=by kernel_rfl
theorem jr_7:((Rows.certRunsRow.knobs==[]))=true:=by kernel_rfl
theorem jr_8:((Tryz.prog.stopKnobs==[]))=true:=by kernel_rfl
theorem jr_9:((Rows.certRunsRow.inPlace==Tryz.prog.inPlace 5))=true:=by kernel_rfl
theorem jr_10:((Rows.certRunsRow.unfollowed==Tryz.prog.unfollowed 5))=true:=by kernel_rfl
theorem jr_11:((Rows.certRunsRow.recurses==Tryz.prog.recurses 5))=true:=by kernel_rfl
theorem jr_12:((Rows.certRunsRow.named==Tryz.prog.varsNamed 5))=true:=by kernel_rfl
theorem jr_13:((Rows.certRunsRow.maps==(Tryz.f5.params.toList++Rows.certRunsSpec.plain.varTypes Tryz.prog).any (Tryz.prog.mapsRec ·)))=true:=by kernel_rfl
theorem jr_14:((Rows.certRunsRow.ifaces==(Tryz.f5.params.toList++Rows.certRunsSpec.plain.varTypes Tryz.prog).any (Tryz.prog.ifacesRec ·)))=true:=by kernel_rfl
theorem jr_15:((Rows.certRunsRow.mapsOut==Tryz.prog.mapsAmong Tryz.f5.resultTypes.toList))=true:=by kernel_rfl
theorem jr_16:((Rows.certRunsRow.loops==(Tryz.f5.params.toList++Rows.certRunsSpec.plain.varTypes Tryz.prog).any (Tryz.prog.loopsFrom ·)))=true:=by kernel_rfl
theorem jr_17:((Rows.certRunsRow.wideKeys==(Tryz.f5.params.toList++Rows.certRunsSpec.plain.varTypes Tryz.prog++Tryz.f5.resultTypes.toList).any (Tryz.prog.wideKeysFrom ·)))=true:=by kernel_rfl
theorem jr_18:(Rows.certRunsSpec.vars.all (Tryz.prog.varReadable ·))=true:=by kernel_rfl
theorem jr_19:(Tryz.f5.resultTypes.all (fun t=>Tryz.prog.readableRec t&&decide (t<Tryz.prog.types.size)))=true:=by kernel_rfl
theorem jr_20:((Rows.certRunsRow.ifacesOut==Tryz.f5.resultTypes.toList.any (Tryz.prog.ifacesRec ·)))=true:=by kernel_rfl
theorem jr_21:((Rows.certRunsRow.loopsOut==Tryz.f5.resultTypes.toList.any (Tryz.prog.loopsFrom ·)))=true:=by kernel_rfl
theorem jr_22:((Rows.certRunsRow.plainKeys==Tryz.prog.plainKeys))=true:=by kernel_rfl
theorem jr_23:(Rows.certRunsRow.shortTexts.isNone)=true:=by kernel_rfl
theorem jr_24:(Tryz.prog.stopsHeard)=true:=by kernel_rfl
theorem jr_25:(Tryz.prog.mayEnter)=true:=by kernel_rfl
theorem jr_26:((Rows.certRunsRow.lifted==Tryz.prog.liftsFinal))=true:=by kernel_rfl
theorem jr_27:((Tryz.prog.make==some Rows.certRunsRow.make))=true:=by kernel_rfl
theorem jr_28:((Rows.certRunsRow.kinds==(if Rows.certRunsRow.domain.isEmpty then [] else Tryz.f5.params.toList.map fun t=>match Tryz.prog.underlying t with|some (.int k)=>some k|_=>none)))=true:=by kernel_rfl
theorem jr_29:((Rows.certRunsRow.pinned==Rows.certRunsRow.pinnedBy))=true:=by kernel_rfl
theorem jr_30:((Rows.certRunsRow.veiled==(Tryz.f5.params.toList++Rows.certRunsSpec.plain.varTypes Tryz.prog++Tryz.f5.resultTypes.toList).any (Tryz.prog.veiledRec ·)))=true:=by kernel_rfl
theorem jr_31:(Rows.certRunsRow.veiledFits Tryz.prog Tryz.f5.params.toList (Tryz.f5.params.toList++Rows.certRunsSpec.plain.varTypes Tryz.prog++Tryz.f5.resultTypes.toList))=true:=by kernel_rfl
end Go.Proofs.YthmnhjcmefjgjaaGreatDoor
