/- Part of the proof; the last text says what is proved. -/
import Derived.Test.YtlcojhddnpmgmaaGreatProg
import Derived.Test.YtlcojhddnpmgmaaGreatRows
import Derived.Carry
import Derived.OpenShut
import Derived.ProofKit
import Derived.WalkKit
set_option linter.unusedSimpArgs false
set_option linter.unusedVariables false
set_option maxRecDepth 100000
namespace Go.Proofs.YtlcojhddnpmgmaaGreat.stateFrees
open Go.ChangeShapes Go.WideShapes Go.ChangeAt Go.RowKit
theorem joined:joinedFacts Tryz.pinned.checked.prog 8 Tryz.f8 Rows.stateFreesSpec Rows.stateFreesRow=true:=by kernel_rfl
end Go.Proofs.YtlcojhddnpmgmaaGreat.stateFrees
