/- The eye: its guarded steps. Walked. -/
import Derived.Test.YtlcojhddnpmgmaaGreatY

namespace Go.Proofs.YtlcojhddnpmgmaaGreat
open Go.RowKit

theorem tae_nil (w : World) : (Instr.typeAssert .nilIface 20 214 true).run Tryz.prog w = .ok (.tuple #[.agg #[.int .i64 0], .bool false]) w := by kernel_rfl
set_option maxRecDepth 10000 in
theorem ecatch_idle (p q : Value) (w : World) :
    CallsD Tryz.prog 207 #[p, q] .returning w fun e u' w' => e = .returned (.tuple #[]) ∧ u' = .returning ∧ w' = w.alloc (.cells #[.int .i64 0] 214) := by
  refine callsD_of_wpS Tryz.func207 rfl fun c₀ cs hu => ?_
  apply wpS_seq
  apply wpS_region
  simp [wpOpsS, go_sem, recoverD, hu, Tryz.ntmps207, Exit.thenS, tae_nil, Array.replicate, List.replicate]
  apply wpS_seq
  apply wpS_region
  simp [wpOpsS, go_sem, Exit.thenS]
  refine wpS_cond (t := false) (by simp [Act.eval]) ?_
  simp only [Bool.false_eq_true, if_false]
  refine wpS_of_wp (wp_skip ?_)
  cases c₀
  simp_all [bodyPostS, results, Tryz.results207]

set_option maxRecDepth 100000 in
theorem eread154 (e b off l c a2 a3 a4 : Nat) (w : World) (he : Ey w e b off l c) (P : World → Prop)
    (hc : Calls Tryz.prog 154 #[.pointer (some ⟨a2, 0, none⟩), .pointer (some ⟨a3, 0, none⟩), .pointer (some ⟨a4, 0, none⟩)] ((w.alloc (.cells #[.pointer (some ⟨e, 0, none⟩)] 171)).alloc (.cells #[.slice (some ⟨b, off, none⟩) l c] 27)) fun x w' => x = .returned (.tuple #[]) ∧ P w') :
    Calls Tryz.prog 153 #[.pointer (some ⟨e, 0, none⟩), .func (Fn.func 154) #[] #[.pointer (some ⟨a2, 0, none⟩), .pointer (some ⟨a3, 0, none⟩), .pointer (some ⟨a4, 0, none⟩)]] w fun x w' => x = .returned (.tuple #[]) ∧ ∃ w1, P w1 ∧ Fr No w1 w' := by
  have hmf : ∀ (fn : Fn) (first cap : Array Value) (w : World), (Instr.makeFunc fn first cap).run Tryz.prog w = .ok (.func fn first cap) w := fun _ _ _ _ => rfl
  have f0 : Fr No w (w.alloc (.cells #[.pointer (some ⟨e, 0, none⟩)] 171)) := (Fr.refl w).alloc _
  have c0 : (w.alloc (.cells #[.pointer (some ⟨e, 0, none⟩)] 171)).cell? ⟨e, 0, none⟩ = some (.bool true) := f0.cell_of (by rw [cell_at he]; rfl) id
  have c1 : (w.alloc (.cells #[.pointer (some ⟨e, 0, none⟩)] 171)).cell? ⟨e, 1, none⟩ = some (.slice (some ⟨b, off, none⟩) l c) := f0.cell_of (by rw [cell_at he]; rfl) id
  have c2 : (w.alloc (.cells #[.pointer (some ⟨e, 0, none⟩)] 171)).cell? ⟨e, 2, none⟩ = some (.int .i64 0) := f0.cell_of (by rw [cell_at he]; rfl) id
  have HC := Lib.hid hc
  clear hc f0 he
  go_enter_defers Tryz.func153, Tryz.ntmps153
  go_wp2_with fail
  with_reducible refine HC.out.mono ?_
  rintro x w1 ⟨rfl, hp⟩
  have HP := Lib.hid hp
  clear hp
  go_wp2_with fail
  refine leaves_cons (f := 207) (args := #[.pointer (some ⟨w.heap.size + 1, 0, none⟩), .pointer (some ⟨w.heap.size, 0, none⟩)]) (by simp) (by simp [go_sem]) ?_
  refine (ecatch_idle _ _ _).mono ?_
  rintro e' u' w5 ⟨rfl, rfl, hw5⟩
  have f5 : Fr No w1 w5 := by rw [hw5]; exact (Fr.refl w1).alloc _
  simp [Leaves, settle, results, Tryz.results153, go_sem]
  exact ⟨w1, HP.out, f5⟩
set_option maxRecDepth 100000 in
theorem eread157 (e b off l c a2 a3 : Nat) (w : World) (he : Ey w e b off l c) (P : World → Prop)
    (hc : Calls Tryz.prog 157 #[.pointer (some ⟨a2, 0, none⟩), .pointer (some ⟨a3, 0, none⟩)] ((w.alloc (.cells #[.pointer (some ⟨e, 0, none⟩)] 171)).alloc (.cells #[.slice (some ⟨b, off, none⟩) l c] 27)) fun x w' => x = .returned (.tuple #[]) ∧ P w') :
    Calls Tryz.prog 153 #[.pointer (some ⟨e, 0, none⟩), .func (Fn.func 157) #[] #[.pointer (some ⟨a2, 0, none⟩), .pointer (some ⟨a3, 0, none⟩)]] w fun x w' => x = .returned (.tuple #[]) ∧ ∃ w1, P w1 ∧ Fr No w1 w' := by
  have hmf : ∀ (fn : Fn) (first cap : Array Value) (w : World), (Instr.makeFunc fn first cap).run Tryz.prog w = .ok (.func fn first cap) w := fun _ _ _ _ => rfl
  have f0 : Fr No w (w.alloc (.cells #[.pointer (some ⟨e, 0, none⟩)] 171)) := (Fr.refl w).alloc _
  have c0 : (w.alloc (.cells #[.pointer (some ⟨e, 0, none⟩)] 171)).cell? ⟨e, 0, none⟩ = some (.bool true) := f0.cell_of (by rw [cell_at he]; rfl) id
  have c1 : (w.alloc (.cells #[.pointer (some ⟨e, 0, none⟩)] 171)).cell? ⟨e, 1, none⟩ = some (.slice (some ⟨b, off, none⟩) l c) := f0.cell_of (by rw [cell_at he]; rfl) id
  have c2 : (w.alloc (.cells #[.pointer (some ⟨e, 0, none⟩)] 171)).cell? ⟨e, 2, none⟩ = some (.int .i64 0) := f0.cell_of (by rw [cell_at he]; rfl) id
  have HC := Lib.hid hc
  clear hc f0 he
  go_enter_defers Tryz.func153, Tryz.ntmps153
  go_wp2_with fail
  with_reducible refine HC.out.mono ?_
  rintro x w1 ⟨rfl, hp⟩
  have HP := Lib.hid hp
  clear hp
  go_wp2_with fail
  refine leaves_cons (f := 207) (args := #[.pointer (some ⟨w.heap.size + 1, 0, none⟩), .pointer (some ⟨w.heap.size, 0, none⟩)]) (by simp) (by simp [go_sem]) ?_
  refine (ecatch_idle _ _ _).mono ?_
  rintro e' u' w5 ⟨rfl, rfl, hw5⟩
  have f5 : Fr No w1 w5 := by rw [hw5]; exact (Fr.refl w1).alloc _
  simp [Leaves, settle, results, Tryz.results153, go_sem]
  exact ⟨w1, HP.out, f5⟩
set_option maxRecDepth 100000 in
theorem eread159 (e b off l c a2 a3 a4 : Nat) (w : World) (he : Ey w e b off l c) (P : World → Prop)
    (hc : Calls Tryz.prog 159 #[.pointer (some ⟨a2, 0, none⟩), .pointer (some ⟨a3, 0, none⟩), .pointer (some ⟨a4, 0, none⟩)] ((w.alloc (.cells #[.pointer (some ⟨e, 0, none⟩)] 171)).alloc (.cells #[.slice (some ⟨b, off, none⟩) l c] 27)) fun x w' => x = .returned (.tuple #[]) ∧ P w') :
    Calls Tryz.prog 153 #[.pointer (some ⟨e, 0, none⟩), .func (Fn.func 159) #[] #[.pointer (some ⟨a2, 0, none⟩), .pointer (some ⟨a3, 0, none⟩), .pointer (some ⟨a4, 0, none⟩)]] w fun x w' => x = .returned (.tuple #[]) ∧ ∃ w1, P w1 ∧ Fr No w1 w' := by
  have hmf : ∀ (fn : Fn) (first cap : Array Value) (w : World), (Instr.makeFunc fn first cap).run Tryz.prog w = .ok (.func fn first cap) w := fun _ _ _ _ => rfl
  have f0 : Fr No w (w.alloc (.cells #[.pointer (some ⟨e, 0, none⟩)] 171)) := (Fr.refl w).alloc _
  have c0 : (w.alloc (.cells #[.pointer (some ⟨e, 0, none⟩)] 171)).cell? ⟨e, 0, none⟩ = some (.bool true) := f0.cell_of (by rw [cell_at he]; rfl) id
  have c1 : (w.alloc (.cells #[.pointer (some ⟨e, 0, none⟩)] 171)).cell? ⟨e, 1, none⟩ = some (.slice (some ⟨b, off, none⟩) l c) := f0.cell_of (by rw [cell_at he]; rfl) id
  have c2 : (w.alloc (.cells #[.pointer (some ⟨e, 0, none⟩)] 171)).cell? ⟨e, 2, none⟩ = some (.int .i64 0) := f0.cell_of (by rw [cell_at he]; rfl) id
  have HC := Lib.hid hc
  clear hc f0 he
  go_enter_defers Tryz.func153, Tryz.ntmps153
  go_wp2_with fail
  with_reducible refine HC.out.mono ?_
  rintro x w1 ⟨rfl, hp⟩
  have HP := Lib.hid hp
  clear hp
  go_wp2_with fail
  refine leaves_cons (f := 207) (args := #[.pointer (some ⟨w.heap.size + 1, 0, none⟩), .pointer (some ⟨w.heap.size, 0, none⟩)]) (by simp) (by simp [go_sem]) ?_
  refine (ecatch_idle _ _ _).mono ?_
  rintro e' u' w5 ⟨rfl, rfl, hw5⟩
  have f5 : Fr No w1 w5 := by rw [hw5]; exact (Fr.refl w1).alloc _
  simp [Leaves, settle, results, Tryz.results153, go_sem]
  exact ⟨w1, HP.out, f5⟩

end Go.Proofs.YtlcojhddnpmgmaaGreat
