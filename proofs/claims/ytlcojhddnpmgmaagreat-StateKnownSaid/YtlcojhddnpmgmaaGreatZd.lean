/- The eye's yes or no, whole. Walked. -/
import Derived.Test.YtlcojhddnpmgmaaGreatZc
import Derived.Outline
namespace Go.Proofs.YtlcojhddnpmgmaaGreat
open Go.RowKit

set_option maxRecDepth 100000 in
theorem ebool_ (e b off l c : Nat) (w : World) (he : Ey w e b off l c) (hl : l ≤ c) (hn : 1 ≤ l) (hne : b ≠ e) (h0 : w.cell? ⟨b, off, none⟩ = some (.int .u8 0)) :
    Calls Tryz.prog 107 #[.pointer (some ⟨e, 0, none⟩)] w fun x w' => x = .returned (.bool false) ∧ (∃ off' c', Ey w' e b off' (l - 1) c' ∧ l - 1 ≤ c' ∧ (l - 1 = 0 ∨ off' = off + 1)) ∧ Fr (fun k => k = e) w w' := by
  have hmf : ∀ (fn : Fn) (first cap : Array Value) (w : World), (Instr.makeFunc fn first cap).run Tryz.prog w = .ok (.func fn first cap) w := fun _ _ _ _ => rfl
  obtain ⟨w3, hw3⟩ : ∃ w3, w3 = (w.alloc (.cells #[.pointer (some ⟨e, 0, none⟩)] 171)).alloc (.cells #[.bool false] 4) := ⟨_, rfl⟩
  obtain ⟨w5, hw5⟩ : ∃ w5, w5 = (w3.alloc (.cells #[.pointer (some ⟨e, 0, none⟩)] 171)).alloc (.cells #[.slice (some ⟨b, off, none⟩) l c] 27) := ⟨_, rfl⟩
  have f3 : Fr No w w3 := by rw [hw3]; exact ((Fr.refl w).alloc _).alloc _
  have f35 : Fr No w3 w5 := by rw [hw5]; exact ((Fr.refl w3).alloc _).alloc _
  have f5 : Fr No w w5 := f3.trans f35 (fun _ _ e => e)
  have kq : w3.heap[w.heap.size]? = some (.cells #[.pointer (some ⟨e, 0, none⟩)] 171 (0, 0)) := by rw [hw3]; exact ((Fr.refl (S := No) _).alloc _).block_of (new_at w _) id
  have kr : w3.heap[w.heap.size + 1]? = some (.cells #[.bool false] 4 (0, 0)) := by
    rw [hw3]; have := new_at (w.alloc (.cells #[.pointer (some ⟨e, 0, none⟩)] 171)) (.cells #[.bool false] 4)
    simpa using this
  have hs := stepb e b off l c w.heap.size (w.heap.size + 1) w5 (f5.block_of he id) hl hn hne (f35.block_of kq id) (f35.block_of kr id) (f5.cell_of h0 id)
  rw [hw5] at hs
  have le := lt_of_block he
  have HR := Lib.hid (eread157 e b off l c w.heap.size (w.heap.size + 1) w3 (f3.block_of he id) _ hs)
  rw [← hw5] at HR
  have F5 := Lib.hid f5
  clear hs f35 kq kr f3 f5 he h0
  rw [hw3] at HR
  go_enter Tryz.func107, Tryz.ntmps107
  go_wp2_with fail
  with_reducible refine HR.out.mono ?_
  rintro x w7 ⟨rfl, w6, ⟨k6, h6, f6⟩, f7⟩
  have c7 : w7.cell? ⟨w.heap.size + 1, 0, none⟩ = some (.bool false) := f7.cell_of (by rw [cell_at k6]; rfl) id
  obtain ⟨o', c', g1, g2, g3⟩ := h6
  have G1 := Lib.hid (f7.block_of g1 id)
  have F7 := Lib.hid ((F5.out.of_no (S := fun k => k = e)).trans (f6.trans f7 (fun _ _ e => e.elim)) (fun k hk e => by rcases e with e | e; exact e; omega))
  clear k6 f6 f7 g1
  go_wp2_with fail
  exact bodyPost_ret (v := .bool false) (by simp [results, Tryz.results107, go_sem, c7]) rfl ⟨rfl, ⟨o', c', G1.out, g2, g3⟩, F7.out⟩
end Go.Proofs.YtlcojhddnpmgmaaGreat
