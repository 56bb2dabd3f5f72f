/- How a deed is tried: what it refuses is told. Walked. -/
import Derived.Test.YtlcojhddnpmgmaaGreatH
import Derived.Recover
namespace Go.Proofs.YtlcojhddnpmgmaaGreat
open Go.RowKit

theorem ta_ref (x : Int) (w : World) : (Instr.typeAssert (.iface 157 (.agg #[.int .i64 x])) 20 157 true).run Tryz.prog w = .ok (.tuple #[.agg #[.int .i64 x], .bool true]) w := by kernel_rfl
theorem ta_nil (w : World) : (Instr.typeAssert .nilIface 20 157 true).run Tryz.prog w = .ok (.tuple #[.agg #[.int .i64 0], .bool false]) w := by kernel_rfl

set_option maxRecDepth 10000 in
theorem catch_idle (p : Addr) (w : World) :
    CallsD Tryz.prog 90 #[.pointer (some p)] .returning w fun e u' w' => e = .returned (.tuple #[]) ∧ u' = .returning ∧ w' = w.alloc (.cells #[.int .i64 0] 157) := by
  refine callsD_of_wpS Tryz.func90 rfl fun c₀ cs hu => ?_
  apply wpS_seq
  apply wpS_region
  simp [wpOpsS, go_sem, recoverD, hu, Tryz.ntmps90, Exit.thenS, ta_nil, Array.replicate, List.replicate]
  apply wpS_seq
  apply wpS_region
  simp [wpOpsS, go_sem, Exit.thenS]
  refine wpS_cond (t := false) (by simp [Act.eval]) ?_
  simp only [Bool.false_eq_true, if_false]
  refine wpS_of_wp (wp_skip ?_)
  cases c₀
  simp_all [bodyPostS, results, Tryz.results90]

set_option maxRecDepth 10000 in
theorem catch_ref (b : Nat) (x : Int) (w : World) (old : Array Value) (hk : w.heap[b]? = some (.cells old 29 (0, 0))) (ho : old.size = 8) :
    CallsD Tryz.prog 90 #[.pointer (some ⟨b, 0, none⟩)] (.panicking (refC x)) w fun e u' w' =>
      e = .returned (.tuple #[]) ∧ u' = .panicking [{ v := .iface 157 (.agg #[.int .i64 x]), recovered := true }] ∧ Fr (· = b) w w' ∧ w'.heap[b]? = some (.cells (rep x 0) 29 (0, 0)) := by
  refine callsD_of_wpS Tryz.func90 rfl fun c₀ cs hu => ?_
  unfold refC at hu
  apply wpS_seq
  apply wpS_region
  simp [wpOpsS, go_sem, recoverD, hu, Tryz.ntmps90, Exit.thenS, ta_ref, Array.replicate, List.replicate]
  apply wpS_seq
  apply wpS_region
  simp [wpOpsS, go_sem, Exit.thenS]
  refine wpS_cond (t := true) (by simp [Act.eval]) ?_
  simp only [if_true]
  apply wpS_region
  have h0 : (w.alloc (.cells #[.int .i64 x] 157)).heap[b]? = some (.cells old 29 (0, 0)) := ((Fr.refl (S := No) w).alloc _).block_of hk id
  have hst := run_storeVar_row (P := Tryz.prog) (w.alloc (.cells #[.int .i64 x] 157)) b 29 29 old (rep x 0) h0 Tryz.size29 (by simpa [rep] using ho) (by simp [rep, Value.oneCell'])
  have hc : (w.alloc (.cells #[.int .i64 x] 157)).cell? ⟨w.heap.size, 0, none⟩ = some (.int .i64 x) := by rw [cell_at (new_at w _)]; rfl
  have hb : (Instr.build 29 #[(0, .int .i64 x)]).run Tryz.prog (w.alloc (.cells #[.int .i64 x] 157)) = .ok (.agg (rep x 0)) (w.alloc (.cells #[.int .i64 x] 157)) := by kernel_rfl
  have K := Lib.hid (setRow_at (cs' := rep x 0) h0)
  have F := Lib.hid (Fr.setRow (S := fun k => k = b) ((Fr.refl w).alloc (.cells #[.int .i64 x] 157)) (.inl rfl) (rep x 0))
  clear h0
  unfold rep at *
  simp [go_sem] at hst
  simp [wpOpsS, go_sem, hc, hb, bodyPostS, results, Tryz.results90]
  rw [hst]
  simp [go_sem]
  exact ⟨F.out, K.out⟩
end Go.Proofs.YtlcojhddnpmgmaaGreat
