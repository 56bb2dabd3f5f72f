/- A line of the script, walked: the reader's panic is caught. -/
import Derived.Test.YtkcgijidgppeiaaDoorP4
import Derived.Recover
namespace Go.Proofs.YtkcgijidgppeiaaDoor
open Go.RowKit

theorem ta_odd (w : World) : (Instr.typeAssert (.iface 83 (.agg #[])) 20 83 true).run Tryd.prog w = .ok (.tuple #[.agg #[], .bool true]) w := by kernel_rfl
theorem ta_nil (w : World) : (Instr.typeAssert .nilIface 20 83 true).run Tryd.prog w = .ok (.tuple #[.agg #[], .bool false]) w := by kernel_rfl

set_option maxRecDepth 10000 in
theorem catch_odd (p : Addr) (x : Bool) (w : World) (hc : w.cell? p = some (.bool x)) (hz : w.frozen? p = false) :
    CallsD Tryd.prog 38 #[.pointer (some p)] (.panicking oddC) w fun e u' w' =>
      e = .returned (.tuple #[]) ∧ u' = .panicking [{ v := .iface 83 (.agg #[]), recovered := true }] ∧ w' = (w.alloc (.cells #[] 83)).setCell p (.bool false) := by
  refine callsD_of_wpS Tryd.func38 rfl fun c₀ cs hu => ?_
  unfold oddC at hu
  apply wpS_seq
  apply wpS_region
  simp [wpOpsS, go_sem, recoverD, hu, Tryd.ntmps38, Exit.thenS, ta_odd, Array.replicate, List.replicate]
  apply wpS_seq
  apply wpS_region
  simp [wpOpsS, go_sem, Exit.thenS]
  refine wpS_cond (t := true) (by simp [Act.eval]) ?_
  simp only [if_true]
  apply wpS_region
  have h1 : (w.alloc (.cells #[] 83)).cell? p = some (.bool x) := ((Fr.refl (S := No) w).alloc _).cell_of hc id
  have h2 : (w.alloc (.cells #[] 83)).frozen? p = false := by rw [((Fr.refl (S := No) w).alloc _).frozen (lt_of_cell hc) id]; exact hz
  simp [wpOpsS, go_sem, h1, h2, bodyPostS, results, Tryd.results38]

set_option maxRecDepth 10000 in
theorem catch_idle (p : Addr) (w : World) :
    CallsD Tryd.prog 38 #[.pointer (some p)] .returning w fun e u' w' => e = .returned (.tuple #[]) ∧ u' = .returning ∧ w' = w.alloc (.cells #[] 83) := by
  refine callsD_of_wpS Tryd.func38 rfl fun c₀ cs hu => ?_
  apply wpS_seq
  apply wpS_region
  simp [wpOpsS, go_sem, recoverD, hu, Tryd.ntmps38, Exit.thenS, ta_nil, Array.replicate, List.replicate]
  apply wpS_seq
  apply wpS_region
  simp [wpOpsS, go_sem, Exit.thenS]
  refine wpS_cond (t := false) (by simp [Act.eval]) ?_
  simp only [Bool.false_eq_true, if_false]
  refine wpS_of_wp (wp_skip ?_)
  cases c₀
  simp_all [bodyPostS, results, Tryd.results38]
end Go.Proofs.YtkcgijidgppeiaaDoor
