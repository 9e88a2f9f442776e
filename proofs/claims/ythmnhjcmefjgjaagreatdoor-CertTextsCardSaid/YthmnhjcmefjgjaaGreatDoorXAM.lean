import Derived.Test.YthmnhjcmefjgjaaGreatDoorXAL
set_option linter.all false
set_option linter.unusedSectionVars false
set_option autoImplicit true
set_option relaxedAutoImplicit true
namespace Go.Proofs.YthmnhjcmefjgjaaGreatDoor
open Go Go.AM Go.ChangeShapes Go.WideShapes Go.ChangeAt Go.RowKit
set_option maxRecDepth 100000
theorem jl_0:(Rows.certTextsRow.wf (OpenSpec.ofChange Rows.certTextsSpec))=true:=by kernel_rfl
theorem jl_1:(laidOutB Tryz.prog)=true:=by kernel_rfl
theorem jl_2:(mapsRowed Tryz.prog)=true:=by kernel_rfl
theorem jl_3:(Tryz.f4.params.all (Tryz.prog.readableRec ·))=true:=by kernel_rfl
theorem jl_4:(namedTie Tryz.prog Rows.certTextsRow.named Rows.certTextsSpec.vars)=true:=by kernel_rfl
theorem jl_5:((Rows.certTextsRow.stops==[]))=true:=by kernel_rfl
theorem jl_6:((Tryz.prog.stops==[]))=true:=by kernel_rfl
theorem jl_7:((Rows.certTextsRow.knobs==[]))=true:=by kernel_rfl
theorem jl_8:((Tryz.prog.stopKnobs==[]))=true:=by kernel_rfl
theorem jl_9:((Rows.certTextsRow.inPlace==Tryz.prog.inPlace 4))=true:=by kernel_rfl
theorem jl_10:((Rows.certTextsRow.unfollowed==Tryz.prog.unfollowed 4))=true:=by kernel_rfl
theorem jl_11:((Rows.certTextsRow.recurses==Tryz.prog.recurses 4))=true:=by kernel_rfl
theorem jl_12:((Rows.certTextsRow.named==Tryz.prog.varsNamed 4))=true:=by kernel_rfl
theorem jl_13:((Rows.certTextsRow.maps==(Tryz.f4.params.toList++Rows.certTextsSpec.plain.varTypes Tryz.prog).any (Tryz.prog.mapsRec ·)))=true:=by kernel_rfl
theorem jl_14:((Rows.certTextsRow.ifaces==(Tryz.f4.params.toList++Rows.certTextsSpec.plain.varTypes Tryz.prog).any (Tryz.prog.ifacesRec ·)))=true:=by kernel_rfl
theorem jl_15:((Rows.certTextsRow.mapsOut==Tryz.prog.mapsAmong Tryz.f4.resultTypes.toList))=true:=by kernel_rfl
theorem jl_16:((Rows.certTextsRow.loops==(Tryz.f4.params.toList++Rows.certTextsSpec.plain.varTypes Tryz.prog).any (Tryz.prog.loopsFrom ·)))=true:=by kernel_rfl
theorem jl_17:((Rows.certTextsRow.wideKeys==(Tryz.f4.params.toList++Rows.certTextsSpec.plain.varTypes Tryz.prog++Tryz.f4.resultTypes.toList).any (Tryz.prog.wideKeysFrom ·)))=true:=by kernel_rfl
theorem jl_18:(Rows.certTextsSpec.vars.all (Tryz.prog.varReadable ·))=true:=by kernel_rfl
theorem jl_19:(Tryz.f4.resultTypes.all (fun t=>Tryz.prog.readableRec t&&decide (t<Tryz.prog.types.size)))=true:=by kernel_rfl
theorem jl_20:((Rows.certTextsRow.ifacesOut==Tryz.f4.resultTypes.toList.any (Tryz.prog.ifacesRec ·)))=true:=by kernel_rfl
theorem jl_21:((Rows.certTextsRow.loopsOut==Tryz.f4.resultTypes.toList.any (Tryz.prog.loopsFrom ·)))=true:=by kernel_rfl
theorem jl_22:((Rows.certTextsRow.plainKeys==Tryz.prog.plainKeys))=true:=by kernel_rfl
theorem jl_23:(Rows.certTextsRow.shortTexts.isNone)=true:=by kernel_rfl
theorem jl_24:(Tryz.prog.stopsHeard)=true:=by kernel_rfl
theorem jl_25:(Tryz.prog.mayEnter)=true:=by kernel_rfl
theorem jl_26:((Rows.certTextsRow.lifted==Tryz.prog.liftsFinal))=true:=by kernel_rfl
theorem jl_27:((Tryz.prog.make==some Rows.certTextsRow.make))=true:=by kernel_rfl
theorem jl_28:((Rows.certTextsRow.kinds==(if Rows.certTextsRow.domain.isEmpty then [] else Tryz.f4.params.toList.map fun t=>match Tryz.prog.underlying t with|some (.int k)=>some k|_=>none)))=true:=by kernel_rfl
theorem jl_29:((Rows.certTextsRow.pinned==Rows.certTextsRow.pinnedBy))=true:=by kernel_rfl
theorem jl_30:((Rows.certTextsRow.veiled==(Tryz.f4.params.toList++Rows.certTextsSpec.plain.varTypes Tryz.prog++Tryz.f4.resultTypes.toList).any (Tryz.prog.veiledRec ·)))=true:=by kernel_rfl
theorem jl_31:(Rows.certTextsRow.veiledFits Tryz.prog Tryz.f4.params.toList (Tryz.f4.params.toList++Rows.certTextsSpec.plain.varTypes Tryz.prog++Tryz.f4.resultTypes.toList))=true:=by kernel_rfl
end Go.Proofs.YthmnhjcmefjgjaaGreatDoor
