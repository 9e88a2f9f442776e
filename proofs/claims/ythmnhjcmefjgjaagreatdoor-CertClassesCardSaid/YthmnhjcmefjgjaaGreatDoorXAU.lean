import Derived.Test.YthmnhjcmefjgjaaGreatDoorXAT
set_option linter.all false
set_option linter.unusedSectionVars false
set_option autoImplicit true
set_option relaxedAutoImplicit true
set_option maxRecDepth 100000
set_option maxHeartbeats 1000000
namespace Go.Proofs.YthmnhjcmefjgjaaGreatDoor
open Go Go.AM Go.ChangeShapes Go.WideShapes Go.ChangeAt Go.RowKit
def jv_0:(Rows.certClassesRow.wf (OpenSpec.ofChange Rows.certClassesSpec))=true:=by kernel_rfl
def jv_1:(laidOutB Tryz.prog)=true:=by kernel_rfl
def jv_2:(mapsRowed Tryz.prog)=true:=by kernel_rfl
def jv_3:(Tryz.f6.params.all (Tryz.prog.readableRec ·))=true:=by kernel_rfl
def jv_4:(namedTie Tryz.prog Rows.certClassesRow.named Rows.certClassesSpec.vars)=true:=by kernel_rfl
def jv_5:((Rows.certClassesRow.stops==[]))=true:=by kernel_rfl
def jv_6:((Tryz.prog.stops==[]))=true:=by kernel_rfl
def jv_7:((Rows.certClassesRow.knobs==[]))=true:=by kernel_rfl
def jv_8:((Tryz.prog.stopKnobs==[]))=true:=by kernel_rfl
def jv_9:((Rows.certClassesRow.inPlace==Tryz.prog.inPlace 6))=true:=by kernel_rfl
def zrv:((Rows.certClassesRow.unfollowed==Tryz.prog.unfollowed 6))=true:=by kernel_rfl
def zru:((Rows.certClassesRow.recurses==Tryz.prog.recurses 6))=true:=by kernel_rfl
def zrt:((Rows.certClassesRow.named==Tryz.prog.varsNamed 6))=true:=by kernel_rfl
def zrs:((Rows.certClassesRow.maps==(Tryz.f6.params.toList++Rows.certClassesSpec.plain.varTypes Tryz.prog).any (Tryz.prog.mapsRec ·)))=true:=by kernel_rfl
def zrr:((Rows.certClassesRow.ifaces==(Tryz.f6.params.toList++Rows.certClassesSpec.plain.varTypes Tryz.prog).any (Tryz.prog.ifacesRec ·)))=true:=by kernel_rfl
def zrq:((Rows.certClassesRow.mapsOut==Tryz.prog.mapsAmong Tryz.f6.resultTypes.toList))=true:=by kernel_rfl
def zrp:((Rows.certClassesRow.loops==(Tryz.f6.params.toList++Rows.certClassesSpec.plain.varTypes Tryz.prog).any (Tryz.prog.loopsFrom ·)))=true:=by kernel_rfl
def zro:((Rows.certClassesRow.wideKeys==(Tryz.f6.params.toList++Rows.certClassesSpec.plain.varTypes Tryz.prog++Tryz.f6.resultTypes.toList).any (Tryz.prog.wideKeysFrom ·)))=true:=by kernel_rfl
def zrn:(Rows.certClassesSpec.vars.all (Tryz.prog.varReadable ·))=true:=by kernel_rfl
def zrm:(Tryz.f6.resultTypes.all (fun t=>Tryz.prog.readableRec t&&decide (t<Tryz.prog.types.size)))=true:=by kernel_rfl
def zrl:((Rows.certClassesRow.ifacesOut==Tryz.f6.resultTypes.toList.any (Tryz.prog.ifacesRec ·)))=true:=by kernel_rfl
def zrk:((Rows.certClassesRow.loopsOut==Tryz.f6.resultTypes.toList.any (Tryz.prog.loopsFrom ·)))=true:=by kernel_rfl
def zrj:((Rows.certClassesRow.plainKeys==Tryz.prog.plainKeys))=true:=by kernel_rfl
def zri:(Rows.certClassesRow.shortTexts.isNone)=true:=by kernel_rfl
def zrh:(Tryz.prog.stopsHeard)=true:=by kernel_rfl
def zrg:(Tryz.prog.mayEnter)=true:=by kernel_rfl
def zrf:((Rows.certClassesRow.lifted==Tryz.prog.liftsFinal))=true:=by kernel_rfl
def zre:((Tryz.prog.make==some Rows.certClassesRow.make))=true:=by kernel_rfl
def zrd:((Rows.certClassesRow.kinds==(if Rows.certClassesRow.domain.isEmpty then [] else Tryz.f6.params.toList.map fun t=>match Tryz.prog.underlying t with|some (.int k)=>some k|_=>none)))=true:=by kernel_rfl
def zrc:((Rows.certClassesRow.pinned==Rows.certClassesRow.pinnedBy))=true:=by kernel_rfl
def zrb:((Rows.certClassesRow.veiled==(Tryz.f6.params.toList++Rows.certClassesSpec.plain.varTypes Tryz.prog++Tryz.f6.resultTypes.toList).any (Tryz.prog.veiledRec ·)))=true:=by kernel_rfl
def zra:(Rows.certClassesRow.veiledFits Tryz.prog Tryz.f6.params.toList (Tryz.f6.params.toList++Rows.certClassesSpec.plain.varTypes Tryz.prog++Tryz.f6.resultTypes.toList))=true:=by kernel_rfl
end Go.Proofs.YthmnhjcmefjgjaaGreatDoor
