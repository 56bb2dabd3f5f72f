/- Part of a proof. -/
import Derived.Test.YtedcppikakinoaaGreatProg
import Derived.Test.YtedcppikakinoaaGreatRows
import Derived.Carry
import Derived.OpenShut
import Derived.ProofKit
import Derived.WalkKit
set_option linter.unusedSimpArgs false
set_option linter.unusedVariables false
set_option maxRecDepth 100000
namespace Go.Proofs.YtedcppikakinoaaGreat.usageNot
open Go.ChangeShapes Go.WideShapes Go.ChangeAt Go.RowKit
theorem dD {a b:Bool} (h:a=true) (g:b=true):(a&&b)=true:=by rw [h,g];rfl
theorem j0:(Rows.usageNotRow.wf (OpenSpec.ofChange Rows.usageNotSpec))=true:=by kernel_rfl
theorem j1:(laidOutB Tryz.pinned.checked.prog)=true:=by kernel_rfl
theorem j2:(mapsRowed Tryz.pinned.checked.prog)=true:=by kernel_rfl
theorem j3:(Tryz.f14.params.all (Tryz.pinned.checked.prog.readableRec ·))=true:=by kernel_rfl
theorem j4:(namedTie Tryz.pinned.checked.prog Rows.usageNotRow.named Rows.usageNotSpec.vars)=true:=by kernel_rfl
theorem j5:((Rows.usageNotRow.stops== []))=true:=by kernel_rfl
theorem j6:((Tryz.pinned.checked.prog.stops== []))=true:=by kernel_rfl
theorem j7:((Rows.usageNotRow.knobs== []))=true:=by kernel_rfl
theorem j8:((Tryz.pinned.checked.prog.stopKnobs== []))=true:=by kernel_rfl
theorem j9:((Rows.usageNotRow.inPlace==Tryz.pinned.checked.prog.inPlace (14:FuncId)))=true:=by kernel_rfl
theorem j10:((Rows.usageNotRow.unfollowed==Tryz.pinned.checked.prog.unfollowed (14:FuncId)))=true:=by kernel_rfl
theorem j11:((Rows.usageNotRow.recurses==Tryz.pinned.checked.prog.recurses (14:FuncId)))=true:=by kernel_rfl
theorem j12:((Rows.usageNotRow.named==Tryz.pinned.checked.prog.varsNamed (14:FuncId)))=true:=by kernel_rfl
theorem j13:((Rows.usageNotRow.maps==(Tryz.f14.params.toList++Rows.usageNotSpec.plain.varTypes Tryz.pinned.checked.prog).any (Tryz.pinned.checked.prog.mapsRec ·)))=true:=by kernel_rfl
theorem j14:((Rows.usageNotRow.ifaces==(Tryz.f14.params.toList++Rows.usageNotSpec.plain.varTypes Tryz.pinned.checked.prog).any (Tryz.pinned.checked.prog.ifacesRec ·)))=true:=by kernel_rfl
theorem j15:((Rows.usageNotRow.mapsOut==Tryz.pinned.checked.prog.mapsAmong Tryz.f14.resultTypes.toList))=true:=by kernel_rfl
theorem j16:((Rows.usageNotRow.loops==(Tryz.f14.params.toList++Rows.usageNotSpec.plain.varTypes Tryz.pinned.checked.prog).any (Tryz.pinned.checked.prog.loopsFrom ·)))=true:=by kernel_rfl
theorem j17:((Rows.usageNotRow.wideKeys==(Tryz.f14.params.toList++Rows.usageNotSpec.plain.varTypes Tryz.pinned.checked.prog++Tryz.f14.resultTypes.toList).any (Tryz.pinned.checked.prog.wideKeysFrom ·)))=true:=by kernel_rfl
theorem j18:(Rows.usageNotSpec.vars.all (Tryz.pinned.checked.prog.varReadable ·))=true:=by kernel_rfl
theorem j19:(Tryz.f14.resultTypes.all (λt=>Tryz.pinned.checked.prog.readableRec t&&decide (t<Tryz.pinned.checked.prog.types.size)))=true:=by kernel_rfl
theorem j20:((Rows.usageNotRow.ifacesOut==Tryz.f14.resultTypes.toList.any (Tryz.pinned.checked.prog.ifacesRec ·)))=true:=by kernel_rfl
theorem j21:((Rows.usageNotRow.loopsOut==Tryz.f14.resultTypes.toList.any (Tryz.pinned.checked.prog.loopsFrom ·)))=true:=by kernel_rfl
theorem j22:((Rows.usageNotRow.plainKeys==Tryz.pinned.checked.prog.plainKeys))=true:=by kernel_rfl
theorem j23:(Rows.usageNotRow.shortTexts.isNone)=true:=by kernel_rfl
theorem j24:(Tryz.pinned.checked.prog.stopsHeard)=true:=by kernel_rfl
theorem j25:(Tryz.pinned.checked.prog.mayEnter)=true:=by kernel_rfl
theorem j26:((Rows.usageNotRow.lifted==Tryz.pinned.checked.prog.liftsFinal))=true:=by kernel_rfl
theorem j27:((Tryz.pinned.checked.prog.make==some Rows.usageNotRow.make))=true:=by kernel_rfl
theorem j29:((Rows.usageNotRow.pinned==Rows.usageNotRow.pinnedBy))=true:=by kernel_rfl
theorem j30:((Rows.usageNotRow.veiled==(Tryz.f14.params.toList++Rows.usageNotSpec.plain.varTypes Tryz.pinned.checked.prog++Tryz.f14.resultTypes.toList).any (Tryz.pinned.checked.prog.veiledRec ·)))=true:=by kernel_rfl
theorem j31:(Rows.usageNotRow.veiledFits Tryz.pinned.checked.prog Tryz.f14.params.toList (Tryz.f14.params.toList++Rows.usageNotSpec.plain.varTypes Tryz.pinned.checked.prog++Tryz.f14.resultTypes.toList))=true:=by kernel_rfl
theorem joined:joinedFacts Tryz.pinned.checked.prog 14 Tryz.f14 Rows.usageNotSpec Rows.usageNotRow=true:=by
 unfold joinedFacts;exact dD (dD (dD (dD (dD (dD (dD (dD (dD (dD (dD (dD (dD (dD (dD (dD (dD (dD (dD (dD (dD (dD (dD (dD (dD (dD (dD (dD (dD (dD (dD (j0) j1) j2) j3) j4) j5) j6) j7) j8) j9) j10) j11) j12) j13) j14) j15) j16) j17) j18) j19) j20) j21) j22) j23) j24) j25) j26) j27) (by kernel_rfl)) j29) j30) j31
end Go.Proofs.YtedcppikakinoaaGreat.usageNot
