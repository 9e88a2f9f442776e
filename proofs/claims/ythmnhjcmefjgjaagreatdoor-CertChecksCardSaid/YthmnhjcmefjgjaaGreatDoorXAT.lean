import Derived.Test.YthmnhjcmefjgjaaGreatDoorXAS
set_option linter.all false
set_option linter.unusedSectionVars false
set_option autoImplicit true
set_option relaxedAutoImplicit true
set_option maxRecDepth 100000
set_option maxHeartbeats 1000000
namespace Go.Proofs.YthmnhjcmefjgjaaGreatDoor
open Go Go.AM Go.ChangeShapes Go.WideShapes Go.ChangeAt Go.RowKit
def jj_0:(Rows.certChecksRow.wf (OpenSpec.ofChange Rows.certChecksSpec))=true:=by kernel_rfl
def jj_1:(laidOutB Tryz.prog)=true:=by kernel_rfl
def jj_2:(mapsRowed Tryz.prog)=true:=by kernel_rfl
def jj_3:(Tryz.f9.params.all (Tryz.prog.readableRec ·))=true:=by kernel_rfl
def jj_4:(namedTie Tryz.prog Rows.certChecksRow.named Rows.certChecksSpec.vars)=true:=by kernel_rfl
def jj_5:((Rows.certChecksRow.stops==[]))=true:=by kernel_rfl
def jj_6:((Tryz.prog.stops==[]))=true:=by kernel_rfl
def jj_7:((Rows.certChecksRow.knobs==[]))=true:=by kernel_rfl
def jj_8:((Tryz.prog.stopKnobs==[]))=true:=by kernel_rfl
def jj_9:((Rows.certChecksRow.inPlace==Tryz.prog.inPlace 9))=true:=by kernel_rfl
def zw9:((Rows.certChecksRow.unfollowed==Tryz.prog.unfollowed 9))=true:=by kernel_rfl
def zw8:((Rows.certChecksRow.recurses==Tryz.prog.recurses 9))=true:=by kernel_rfl
def zw7:((Rows.certChecksRow.named==Tryz.prog.varsNamed 9))=true:=by kernel_rfl
def zw6:((Rows.certChecksRow.maps==(Tryz.f9.params.toList++Rows.certChecksSpec.plain.varTypes Tryz.prog).any (Tryz.prog.mapsRec ·)))=true:=by kernel_rfl
def zw5:((Rows.certChecksRow.ifaces==(Tryz.f9.params.toList++Rows.certChecksSpec.plain.varTypes Tryz.prog).any (Tryz.prog.ifacesRec ·)))=true:=by kernel_rfl
def zw4:((Rows.certChecksRow.mapsOut==Tryz.prog.mapsAmong Tryz.f9.resultTypes.toList))=true:=by kernel_rfl
def zw3:((Rows.certChecksRow.loops==(Tryz.f9.params.toList++Rows.certChecksSpec.plain.varTypes Tryz.prog).any (Tryz.prog.loopsFrom ·)))=true:=by kernel_rfl
def zw2:((Rows.certChecksRow.wideKeys==(Tryz.f9.params.toList++Rows.certChecksSpec.plain.varTypes Tryz.prog++Tryz.f9.resultTypes.toList).any (Tryz.prog.wideKeysFrom ·)))=true:=by kernel_rfl
def zw1:(Rows.certChecksSpec.vars.all (Tryz.prog.varReadable ·))=true:=by kernel_rfl
def zw0:(Tryz.f9.resultTypes.all (λ t=>Tryz.prog.readableRec t&&decide (t<Tryz.prog.types.size)))=true:=by kernel_rfl
def zwz:((Rows.certChecksRow.ifacesOut==Tryz.f9.resultTypes.toList.any (Tryz.prog.ifacesRec ·)))=true:=by kernel_rfl
def zwy:((Rows.certChecksRow.loopsOut==Tryz.f9.resultTypes.toList.any (Tryz.prog.loopsFrom ·)))=true:=by kernel_rfl
def zwx:((Rows.certChecksRow.plainKeys==Tryz.prog.plainKeys))=true:=by kernel_rfl
def zww:(Rows.certChecksRow.shortTexts.isNone)=true:=by kernel_rfl
def zwv:(Tryz.prog.stopsHeard)=true:=by kernel_rfl
def zwu:(Tryz.prog.mayEnter)=true:=by kernel_rfl
def zwt:((Rows.certChecksRow.lifted==Tryz.prog.liftsFinal))=true:=by kernel_rfl
def zws:((Tryz.prog.make==some Rows.certChecksRow.make))=true:=by kernel_rfl
def zwr:((Rows.certChecksRow.kinds==(if Rows.certChecksRow.domain.isEmpty then [] else Tryz.f9.params.toList.map λ t=>match Tryz.prog.underlying t with|some (.int k)=>some k|_=>none)))=true:=by kernel_rfl
def zwq:((Rows.certChecksRow.pinned==Rows.certChecksRow.pinnedBy))=true:=by kernel_rfl
def zwp:((Rows.certChecksRow.veiled==(Tryz.f9.params.toList++Rows.certChecksSpec.plain.varTypes Tryz.prog++Tryz.f9.resultTypes.toList).any (Tryz.prog.veiledRec ·)))=true:=by kernel_rfl
def zwo:(Rows.certChecksRow.veiledFits Tryz.prog Tryz.f9.params.toList (Tryz.f9.params.toList++Rows.certChecksSpec.plain.varTypes Tryz.prog++Tryz.f9.resultTypes.toList))=true:=by kernel_rfl
end Go.Proofs.YthmnhjcmefjgjaaGreatDoor
