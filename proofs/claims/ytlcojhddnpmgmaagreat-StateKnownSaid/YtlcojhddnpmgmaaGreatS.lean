/- Guarded steps; a reply's bytes. Walked. -/
import Derived.Test.YtlcojhddnpmgmaaGreatR
import Derived.Recover
namespace Go.Proofs.YtlcojhddnpmgmaaGreat
open Go.RowKit

theorem tan_nil (w : World) : (Instr.typeAssert .nilIface 20 216 true).run Tryz.prog w = .ok (.tuple #[.agg #[.int .i64 0], .bool false]) w := by kernel_rfl
set_option maxRecDepth 10000 in
theorem ncatch_idle (p : Addr) (w : World) :
    CallsD Tryz.prog 206 #[.pointer (some p)] .returning w fun e u' w' => e = .returned (.tuple #[]) ∧ u' = .returning ∧ w' = w.alloc (.cells #[.int .i64 0] 216) := by
  refine callsD_of_wpS Tryz.func206 rfl fun c₀ cs hu => ?_
  apply wpS_seq
  apply wpS_region
  simp [wpOpsS, go_sem, recoverD, hu, Tryz.ntmps206, Exit.thenS, tan_nil, Array.replicate, List.replicate]
  apply wpS_seq
  apply wpS_region
  simp [wpOpsS, go_sem, Exit.thenS]
  refine wpS_cond (t := false) (by simp [Act.eval]) ?_
  simp only [Bool.false_eq_true, if_false]
  refine wpS_of_wp (wp_skip ?_)
  cases c₀
  simp_all [bodyPostS, results, Tryz.results206]

def GuardPost (P : World → Prop) (w : World) (x : Ending) (w' : World) : Prop := x = .returned (.int .i64 0) ∧ ∃ w1, P w1 ∧ Fr (fun k => k = w.heap.size) w1 w'

set_option maxRecDepth 100000 in
set_option maxHeartbeats 800000 in
theorem guard209 (sb ob : Nat) (P : World → Prop) (w : World)
    (hc : Calls Tryz.prog 209 #[.pointer (some ⟨sb, 0, none⟩), .pointer (some ⟨ob, 0, none⟩)] (w.alloc (.cells #[.int .i64 0] 25)) fun x w' => x = .returned (.tuple #[]) ∧ P w' ∧ w'.heap[w.heap.size]? = some (.cells #[.int .i64 0] 25 (0, 0))) :
    Calls Tryz.prog 149 #[.func (Fn.func 209) #[] #[.pointer (some ⟨sb, 0, none⟩), .pointer (some ⟨ob, 0, none⟩)]] w (GuardPost P w) := by
  have hmf : ∀ (fn : Fn) (first cap : Array Value) (w : World), (Instr.makeFunc fn first cap).run Tryz.prog w = .ok (.func fn first cap) w := fun _ _ _ _ => rfl
  have HC := Lib.hid hc
  clear hc
  go_enter_defers Tryz.func149, Tryz.ntmps149
  go_wp2_with fail
  with_reducible refine HC.out.mono ?_
  rintro x w1 ⟨rfl, hp, k1⟩
  have HP := Lib.hid hp
  have K1 := Lib.hid k1
  have c1 : w1.cell? ⟨w.heap.size, 0, none⟩ = some (.int .i64 0) := by rw [cell_at k1]; rfl
  have z1 := frozen_at k1 0
  clear hp k1
  go_wp2_with fail
  refine leaves_cons (f := 206) (args := #[.pointer (some ⟨w.heap.size, 0, none⟩)]) (by simp) (by simp [go_sem]) ?_
  refine (ncatch_idle ⟨w.heap.size, 0, none⟩ _).mono ?_
  rintro e u' w5 ⟨rfl, rfl, hw5⟩
  have f5 : Fr (fun k => k = w.heap.size) w1 w5 := by
    rw [hw5]
    exact (Fr.setCell (S := fun k => k = w.heap.size) (p := ⟨w.heap.size, 0, none⟩) (Fr.refl w1) (.inl rfl) _).alloc _
  have c5 : w5.cell? ⟨w.heap.size, 0, none⟩ = some (.int .i64 0) := by
    rw [hw5]
    refine ((Fr.refl (S := No) _).alloc _).cell_of ?_ id
    rw [cell_at (setCell_at K1.out 0 _)]
    rfl
  have post : GuardPost P w (.returned (.int .i64 0)) w5 := ⟨rfl, w1, HP.out, f5⟩
  simp [Leaves, settle, results, Tryz.results149, go_sem, c5]
  exact post
set_option maxRecDepth 100000 in
set_option maxHeartbeats 800000 in
theorem guard150 (sb ob : Nat) (P : World → Prop) (w : World)
    (hc : Calls Tryz.prog 150 #[.pointer (some ⟨sb, 0, none⟩), .pointer (some ⟨ob, 0, none⟩)] (w.alloc (.cells #[.int .i64 0] 25)) fun x w' => x = .returned (.tuple #[]) ∧ P w' ∧ w'.heap[w.heap.size]? = some (.cells #[.int .i64 0] 25 (0, 0))) :
    Calls Tryz.prog 149 #[.func (Fn.func 150) #[] #[.pointer (some ⟨sb, 0, none⟩), .pointer (some ⟨ob, 0, none⟩)]] w (GuardPost P w) := by
  have hmf : ∀ (fn : Fn) (first cap : Array Value) (w : World), (Instr.makeFunc fn first cap).run Tryz.prog w = .ok (.func fn first cap) w := fun _ _ _ _ => rfl
  have HC := Lib.hid hc
  clear hc
  go_enter_defers Tryz.func149, Tryz.ntmps149
  go_wp2_with fail
  with_reducible refine HC.out.mono ?_
  rintro x w1 ⟨rfl, hp, k1⟩
  have HP := Lib.hid hp
  have K1 := Lib.hid k1
  have c1 : w1.cell? ⟨w.heap.size, 0, none⟩ = some (.int .i64 0) := by rw [cell_at k1]; rfl
  have z1 := frozen_at k1 0
  clear hp k1
  go_wp2_with fail
  refine leaves_cons (f := 206) (args := #[.pointer (some ⟨w.heap.size, 0, none⟩)]) (by simp) (by simp [go_sem]) ?_
  refine (ncatch_idle ⟨w.heap.size, 0, none⟩ _).mono ?_
  rintro e u' w5 ⟨rfl, rfl, hw5⟩
  have f5 : Fr (fun k => k = w.heap.size) w1 w5 := by
    rw [hw5]
    exact (Fr.setCell (S := fun k => k = w.heap.size) (p := ⟨w.heap.size, 0, none⟩) (Fr.refl w1) (.inl rfl) _).alloc _
  have c5 : w5.cell? ⟨w.heap.size, 0, none⟩ = some (.int .i64 0) := by
    rw [hw5]
    refine ((Fr.refl (S := No) _).alloc _).cell_of ?_ id
    rw [cell_at (setCell_at K1.out 0 _)]
    rfl
  have post : GuardPost P w (.returned (.int .i64 0)) w5 := ⟨rfl, w1, HP.out, f5⟩
  simp [Leaves, settle, results, Tryz.results149, go_sem, c5]
  exact post
end Go.Proofs.YtlcojhddnpmgmaaGreat
