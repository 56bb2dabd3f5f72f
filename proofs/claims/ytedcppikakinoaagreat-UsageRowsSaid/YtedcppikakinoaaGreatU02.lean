/- Part of a proof. -/
import Derived.Test.YtedcppikakinoaaGreatProg
import Derived.Ground.SlbCloneProg
import Derived.Shelf.Bytes.SlClone
import Derived.Shelf.Small.Strs
set_option linter.unusedSimpArgs false
set_option linter.unusedVariables false
set_option maxRecDepth 100000
namespace Go.Proofs
open Go.Shelf
def Tryz.aAB:Go.Shelf.Ren:=⟨fun|137=>252|217=>293|266=>314|n=>n,fun|9=>9|5=>5|3=>3|n=>n,fun|n=>n⟩
theorem Tryz.lays137:Go.Proofs.Lays.n137 Tryz.prog Tryz.aAB:={
 mixed:=by kernel_rfl
 f137:=Tryz.func252.trans (congrArg some (by kernel_rfl))
 f217:=Tryz.func293.trans (congrArg some (by kernel_rfl))
 f266:=Tryz.func314.trans (congrArg some (by kernel_rfl))
 t3:=Tryz.underlying3
 a3:=Tryz.isAgg3
 z3:=Tryz.sizeOf3
 v3:=Tryz.zeroValue3
 t5:=Tryz.underlying5
 a5:=Tryz.isAgg5
 z5:=Tryz.sizeOf5
 v5:=Tryz.zeroValue5
 t9:=Tryz.underlying9
 a9:=Tryz.isAgg9
 z9:=Tryz.sizeOf9
 v9:=Tryz.zeroValue9}
open Go.RowKit in
theorem Tryz.strings_IndexByte (s:ByteArray) (c:Int) (w:World):
  Calls Tryz.prog 252 #[.string s,.int .u8 c] w λe w'=>e=.returned (.int .i64 (Lib.indexByte s.data.toList c.toNat.toUInt8))/\w'=w:=Any.strings_IndexByte Tryz.lays137 s c w
def Tryz.aEw:Go.Shelf.Ren:=⟨fun|4=>121|n=>n,fun|22=>27|4=>4|5=>5|n=>n,fun|n=>n⟩
theorem Tryz.Xq:Go.Proofs.SlLaysK.n4 Tryz.prog Tryz.aEw:={
 mixed:=by kernel_rfl
 f4:=Tryz.func121.trans (congrArg some (by kernel_rfl))
 t4:=Tryz.underlying4
 a4:=Tryz.isAgg4
 z4:=Tryz.sizeOf4
 v4:=Tryz.zeroValue4
 t22:=Tryz.underlying27
 a22:=Tryz.isAgg27
 z22:=Tryz.sizeOf27
 v22:=Tryz.zeroValue27
 t5:=Tryz.underlying5
 i5:=by kernel_rfl}
open Go.RowKit Go.Lib in
theorem Tryz.bytes_Clone_at (a:Addr) (n c:Nat) (xs:List Int) (w:World) (A:xs.length=n) (r:n<=140737488355328) (u:∀i,i<n->w.cell? (a.add i)=some (.int .u8 (xs.getD i 0))):
  Calls Tryz.prog 121 #[.slice (some a) n c] w λe w'=>∃o,e=.returned o/\w'.ownsRow w.heap.size 5 1 o n (xs.map (Value.int .u8))/\o≠ .slice none 0 0/\Below w.heap.size w w':=Any.bytes_Clone_at Tryz.Xq a n c xs w A r u
open Go.RowKit Go.Lib in
theorem Tryz.bytes_Clone_nil (n c:Nat) (w:World):
  Calls Tryz.prog 121 #[.slice none n c] w λe w'=>e=.returned (.slice none 0 0)/\w'=w:=Any.bytes_Clone_nil Tryz.Xq n c w
end Go.Proofs
