/- Part of the proof; the last text says what is proved. -/
import Derived.Test.YtlcojhddnpmgmaaGreatW13
set_option linter.unusedSimpArgs false
set_option linter.unusedVariables false
set_option maxRecDepth 100000
set_option maxHeartbeats 3200000
namespace Go.Proofs.YtlcojhddnpmgmaaGreat
open Go.RowKit
theorem request_ (n kind:Int) (path:ByteArray) (w:World):Calls Tryz.prog 16 #[.agg (req n kind path)] w fun e w'=>e=.returned (.agg (req n kind path))∧Fr No w w':=by
 unfold req;go_enter Tryz.func16,Tryz.ntmps16;go_wp2_with fail;refine wp_loop_rounds 1 ?_;rw [rounds_succ];go_wp2_with fail;exact bodyPost_ret (v:=.agg #[.int .i64 0,.int .i64 0,.int .i64 n,.int .i64 kind,.string path,.string ⟨#[]⟩,.bool false,.bool false,.bool false,.int .i64 0,.int .i64 0,.int .i64 0,.slice none 0 0,.slice none 0 0]) (by simp [results,Tryz.results16,go_sem]) rfl ⟨rfl,by repeat (first|exact Fr.refl _|apply Fr.alloc)⟩
end Go.Proofs.YtlcojhddnpmgmaaGreat
