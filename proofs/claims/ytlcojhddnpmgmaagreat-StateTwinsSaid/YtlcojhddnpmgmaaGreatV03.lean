/- Part of a proof. -/
import Derived.Test.YtlcojhddnpmgmaaGreatV01
import Derived.Test.YtlcojhddnpmgmaaGreatV02
import Derived.Deep.RegionHeld3
set_option linter.unusedSimpArgs false
set_option linter.unusedVariables false
set_option maxRecDepth 100000
namespace Go.Proofs.YtlcojhddnpmgmaaGreat
open Go.RowKit
def lC (w:World) (v:Value) (bs:List UInt8):Prop:=
 (bs= []∧∃a c,v=.slice a 0 c)∨∃b off c,v=.slice (some ⟨b,off,none⟩) bs.length c∧bs.length≤c∧b<w.heap.size∧∀j x,bs[j]? =some x→w.cell? ⟨b,off+j,none⟩=some (.int .u8 x.toNat)
theorem lC.fr {S:Nat→Prop} {w w':World} {v:Value} {bs:List UInt8} (h:lC w v bs) (f:Fr S w w') (hS:∀a l c,v=.slice (some a) l c→¬S a.block):lC w' v bs:=by
 rcases h with h|⟨b,off,c,rfl,hl,hb,hc⟩
 ·exact .inl h
 ·exact .inr ⟨b,off,c,rfl,hl,Nat.lt_of_lt_of_le hb f.size,fun j x hj=>f.cell_of (p:=⟨b,off+j,none⟩) (hc j x hj) (hS ⟨b,off,none⟩ _ _ rfl)⟩
theorem lC.no {w w':World} {v:Value} {bs:List UInt8} (h:lC w v bs) (f:Fr No w w'):lC w' v bs:=h.fr f (fun _ _ _ _ e=>e)
def dC (w:World) (v:Value) (bs:List UInt8) (b off c:Nat):Prop:=v=.slice (some ⟨b,off,none⟩) bs.length c∧bs.length≤c∧b<w.heap.size∧∀j x,bs[j]? =some x→w.cell? ⟨b,off+j,none⟩=some (.int .u8 x.toNat)
