/- A boot that a client asks: it is refused. Walked. -/
import Derived.Test.YtlcojhddnpmgmaaGreatZl
import Derived.Outline
namespace Go.Proofs.YtlcojhddnpmgmaaGreat
open Go.RowKit

set_option maxRecDepth 100000 in
theorem sboot_ (w : World) (s : Value) :
    Calls Tryz.prog 50 #[s, .agg (req 0 10 ⟨#[]⟩)] w fun e w' => e = .panicked (refC 17) ∧ Fr No w w' := by
  have f0 : Fr No w ((w.alloc (.cells (req 0 10 ⟨#[]⟩) 36)).alloc (.cells (rep 0 0) 29)) := ((Fr.refl w).alloc _).alloc _
  unfold req rep at *
  go_enter Tryz.func50, Tryz.ntmps50
  go_wp2_with fail
  refine (must_no 17 _).mono ?_
  rintro e w1 ⟨rfl, rfl⟩
  exact ⟨rfl, rfl, by repeat (first | exact Fr.refl _ | apply Fr.alloc)⟩

set_option maxRecDepth 100000 in
set_option maxHeartbeats 1600000 in
theorem tried_boot (w : World) (s : Value) :
    Calls Tryz.prog 49 #[s, .func (Fn.func 50) #[] #[], .agg (req 0 10 ⟨#[]⟩)] w fun e w' => e = .returned (.agg (rep 17 0)) ∧ Fr No w w' := by
  have hmf : ∀ (fn : Fn) (first cap : Array Value) (w : World), (Instr.makeFunc fn first cap).run Tryz.prog w = .ok (.func fn first cap) w := fun _ _ _ _ => rfl
  have f0 : Fr No w ((w.alloc (.cells (req 0 10 ⟨#[]⟩) 36)).alloc (.cells (rep 0 0) 29)) := ((Fr.refl w).alloc _).alloc _
  have k1 : ((w.alloc (.cells (req 0 10 ⟨#[]⟩) 36)).alloc (.cells (rep 0 0) 29)).heap[w.heap.size + 1]? = some (.cells (rep 0 0) 29 (0, 0)) := by simpa using new_at (w.alloc (.cells (req 0 10 ⟨#[]⟩) 36)) (.cells (rep 0 0) 29)
  have HM := Lib.hid (sboot_ ((w.alloc (.cells (req 0 10 ⟨#[]⟩) 36)).alloc (.cells (rep 0 0) 29)) s)
  have K1 := Lib.hid k1
  have F0 := Lib.hid f0
  clear k1 f0
  unfold req rep at *
  go_enter_defers Tryz.func49, Tryz.ntmps49
  go_wp2_with fail
  with_reducible refine HM.out.mono ?_
  rintro e w1 ⟨rfl, f1⟩
  refine leaves_cons (f := 90) (args := #[.pointer (some ⟨w.heap.size + 1, 0, none⟩)]) (by simp) (by simp [go_sem]) ?_
  refine (catch_ref (w.heap.size + 1) 17 w1 _ (f1.block_of K1.out id) rfl).mono ?_
  rintro e u' w5 ⟨rfl, rfl, f5, k5⟩
  have F5 : Fr No w w5 := (F0.out.trans f1 (fun _ _ e => e)).of_no.trans f5 (fun j hj e => by omega) |>.no (S := No) (fun _ _ e => e)
  obtain ⟨c0, c1, c2, c3, c4, c5, c6, c7⟩ := rows8 k5
  simp [Leaves, settle, results, Tryz.results49, go_sem, c0, c1, c2, c3, c4, c5, c6, c7]
  exact F5
end Go.Proofs.YtlcojhddnpmgmaaGreat
