/- Part of the proof; the last text says what is proved. -/
import Derived.Test.YtlcojhddnpmgmaaGreatW01
import Derived.Test.YtlcojhddnpmgmaaGreatW02
import Derived.Deep.RegionHeld3
set_option linter.unusedSimpArgs false
set_option linter.unusedVariables false
set_option maxRecDepth 100000
namespace Go.Proofs.YtlcojhddnpmgmaaGreat
open Go.RowKit
def SlIs (w:World) (v:Value) (bs:List UInt8) (b off c:Nat):Prop:=v=.slice (some ⟨b,off,none⟩) bs.length c∧bs.length≤c∧b<w.heap.size∧∀j x,bs[j]? =some x→w.cell? ⟨b,off+j,none⟩=some (.int .u8 x.toNat)
end Go.Proofs.YtlcojhddnpmgmaaGreat
