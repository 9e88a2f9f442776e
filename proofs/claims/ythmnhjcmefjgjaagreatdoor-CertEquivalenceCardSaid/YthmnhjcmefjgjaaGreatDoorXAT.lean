import Derived.Test.YthmnhjcmefjgjaaGreatDoorXAS
set_option linter.all false
set_option linter.unusedSectionVars false
set_option autoImplicit true
set_option relaxedAutoImplicit true
namespace Go.Proofs.YthmnhjcmefjgjaaGreatDoor
open Go Go.AM Go.ChangeShapes Go.WideShapes Go.ChangeAt Go.RowKit
set_option maxRecDepth 100000
theorem jx_0:(Rows.certEquivalenceRow.wf (OpenSpec.ofChange Rows.certEquivalenceSpec))=true:=by kernel_rfl
theorem jx_1:(laidOutB Tryz.prog)=true:=by kernel_rfl
theorem jx_2:(mapsRowed Tryz.prog)=true:=by kernel_rfl
theorem jx_3:(Tryz.f10.params.all (Tryz.prog.readableRec ·))=true:=by kernel_rfl
theorem jx_4:(namedTie Tryz.prog Rows.certEquivalenceRow.named Rows.certEquivalenceSpec.vars)=true:=by kernel_rfl
theorem jx_5:((Rows.certEquivalenceRow.stops==[]))=true:=by kernel_rfl
theorem jx_6:((Tryz.prog.stops==[]))=true:=by kernel_rfl
theorem jx_7:((Rows.certEquivalenceRow.knobs==[]))=true:=by kernel_rfl
theorem jx_8:((Tryz.prog.stopKnobs==[]))=true:=by kernel_rfl
theorem jx_9:((Rows.certEquivalenceRow.inPlace==Tryz.prog.inPlace 10))=true:=by kernel_rfl
theorem zp8:((Rows.certEquivalenceRow.unfollowed==Tryz.prog.unfollowed 10))=true:=by kernel_rfl
theorem zp7:((Rows.certEquivalenceRow.recurses==Tryz.prog.recurses 10))=true:=by kernel_rfl
theorem zp6:((Rows.certEquivalenceRow.named==Tryz.prog.varsNamed 10))=true:=by kernel_rfl
theorem zp5:((Rows.certEquivalenceRow.maps==(Tryz.f10.params.toList++Rows.certEquivalenceSpec.plain.varTypes Tryz.prog).any (Tryz.prog.mapsRec ·)))=true:=by kernel_rfl
theorem zp4:((Rows.certEquivalenceRow.ifaces==(Tryz.f10.params.toList++Rows.certEquivalenceSpec.plain.varTypes Tryz.prog).any (Tryz.prog.ifacesRec ·)))=true:=by kernel_rfl
theorem zp3:((Rows.certEquivalenceRow.mapsOut==Tryz.prog.mapsAmong Tryz.f10.resultTypes.toList))=true:=by kernel_rfl
theorem zp2:((Rows.certEquivalenceRow.loops==(Tryz.f10.params.toList++Rows.certEquivalenceSpec.plain.varTypes Tryz.prog).any (Tryz.prog.loopsFrom ·)))=true:=by kernel_rfl
theorem zp1:((Rows.certEquivalenceRow.wideKeys==(Tryz.f10.params.toList++Rows.certEquivalenceSpec.plain.varTypes Tryz.prog++Tryz.f10.resultTypes.toList).any (Tryz.prog.wideKeysFrom ·)))=true:=by kernel_rfl
theorem zp0:(Rows.certEquivalenceSpec.vars.all (Tryz.prog.varReadable ·))=true:=by kernel_rfl
theorem zpz:(Tryz.f10.resultTypes.all (fun t=>Tryz.prog.readableRec t&&decide (t<Tryz.prog.types.size)))=true:=by kernel_rfl
theorem zpy:((Rows.certEquivalenceRow.ifacesOut==Tryz.f10.resultTypes.toList.any (Tryz.prog.ifacesRec ·)))=true:=by kernel_rfl
theorem zpx:((Rows.certEquivalenceRow.loopsOut==Tryz.f10.resultTypes.toList.any (Tryz.prog.loopsFrom ·)))=true:=by kernel_rfl
theorem zpw:((Rows.certEquivalenceRow.plainKeys==Tryz.prog.plainKeys))=true:=by kernel_rfl
theorem zpv:(Rows.certEquivalenceRow.shortTexts.isNone)=true:=by kernel_rfl
theorem zpu:(Tryz.prog.stopsHeard)=true:=by kernel_rfl
theorem zpt:(Tryz.prog.mayEnter)=true:=by kernel_rfl
theorem zps:((Rows.certEquivalenceRow.lifted==Tryz.prog.liftsFinal))=true:=by kernel_rfl
theorem zpr:((Tryz.prog.make==some Rows.certEquivalenceRow.make))=true:=by kernel_rfl
theorem zpq:((Rows.certEquivalenceRow.kinds==(if Rows.certEquivalenceRow.domain.isEmpty then [] else Tryz.f10.params.toList.map fun t=>match Tryz.prog.underlying t with|some (.int k)=>some k|_=>none)))=true:=by kernel_rfl
theorem zpp:((Rows.certEquivalenceRow.pinned==Rows.certEquivalenceRow.pinnedBy))=true:=by kernel_rfl
theorem zpo:((Rows.certEquivalenceRow.veiled==(Tryz.f10.params.toList++Rows.certEquivalenceSpec.plain.varTypes Tryz.prog++Tryz.f10.resultTypes.toList).any (Tryz.prog.veiledRec ·)))=true:=by kernel_rfl
theorem zpn:(Rows.certEquivalenceRow.veiledFits Tryz.prog Tryz.f10.params.toList (Tryz.f10.params.toList++Rows.certEquivalenceSpec.plain.varTypes Tryz.prog++Tryz.f10.resultTypes.toList))=true:=by kernel_rfl
end Go.Proofs.YthmnhjcmefjgjaaGreatDoor
