/- Part of a proof. -/
import Derived.Test.YtedcppikakinoaaGreatU01
import Derived.Test.YtedcppikakinoaaGreatU02
import Derived.BigQuiet
import Derived.Deep.AppendLies
import Derived.Deep.QuietTactic
import Derived.Outline
set_option linter.unusedSimpArgs false
set_option linter.unusedVariables false
set_option maxRecDepth 100000
namespace Go.Proofs.YtedcppikakinoaaGreat
open Go.Proofs.Tryz Go.RowKit
theorem aEz (w):Calls prog 57 #[] w λe w'=>e=.returned (Y w)/\w'=w.alloc (.cells #[.pointer none,.pointer none,.pointer none,.pointer none,true] 184):=by
 go_enter func57,ntmps57;go_wp2;go_ret;exact ⟨rfl,rfl⟩
theorem Zn (w):Calls prog 59 #[] w λe w'=>e=.returned (Y w)/\w'=w.alloc (.cells #[true,nS] 187):=by
 go_enter func59,ntmps59;go_wp2;go_ret;exact ⟨rfl,rfl⟩
theorem aAe (n:Int) (s:ByteArray) (w):Calls prog 101 #[n,s] w λe w'=>e=.returned (Y (w.heap.size+1))/\w'=(w.alloc (.map #[] 0)).alloc (.cells #[n,s,true,.map (some w)] 168):=by
 have o:= @run_makeMap prog;go_enter func101,ntmps101;go_wp2;go_ret;exact ⟨rfl,rfl⟩
theorem fF (w:World) (o):(w.alloc o).heap.size=w.heap.size+1:=by simp
theorem Tryz.info9:(prog.info? 9).map (λi=>(i.zero,i.size,i.bytes))=some (some (.string ⟨#[]⟩),1,16):=by kernel_rfl
