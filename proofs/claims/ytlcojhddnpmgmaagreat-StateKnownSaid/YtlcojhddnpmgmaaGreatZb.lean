/- The eye's numbers, whole. Walked. -/
import Derived.Test.YtlcojhddnpmgmaaGreatZa
import Derived.Outline
namespace Go.Proofs.YtlcojhddnpmgmaaGreat
open Go.RowKit

set_option maxRecDepth 100000 in
theorem enum1_0 (e b off l c : Nat) (w : World) (he : Ey w e b off l c) (hl : l ≤ c) (hn : 1 ≤ l) (hne : b ≠ e) (h0 : w.cell? ⟨b, off, none⟩ = some (.int .u8 0)) :
    Calls Tryz.prog 104 #[.pointer (some ⟨e, 0, none⟩), .int .i64 1] w fun x w' => x = .returned (.int .i64 0) ∧ (∃ off' c', Ey w' e b off' (l - 1) c' ∧ l - 1 ≤ c' ∧ (l - 1 = 0 ∨ off' = off + 1)) ∧ Fr (fun k => k = e) w w' := by
  have hmf : ∀ (fn : Fn) (first cap : Array Value) (w : World), (Instr.makeFunc fn first cap).run Tryz.prog w = .ok (.func fn first cap) w := fun _ _ _ _ => rfl
  obtain ⟨w3, hw3⟩ : ∃ w3, w3 = ((w.alloc (.cells #[.pointer (some ⟨e, 0, none⟩)] 171)).alloc (.cells #[.int .i64 1] 3)).alloc (.cells #[.int .i64 0] 3) := ⟨_, rfl⟩
  obtain ⟨w5, hw5⟩ : ∃ w5, w5 = (w3.alloc (.cells #[.pointer (some ⟨e, 0, none⟩)] 171)).alloc (.cells #[.slice (some ⟨b, off, none⟩) l c] 27) := ⟨_, rfl⟩
  have f3 : Fr No w w3 := by rw [hw3]; exact (((Fr.refl w).alloc _).alloc _).alloc _
  have f35 : Fr No w3 w5 := by rw [hw5]; exact ((Fr.refl w3).alloc _).alloc _
  have f5 : Fr No w w5 := f3.trans f35 (fun _ _ e => e)
  have kq : w3.heap[w.heap.size]? = some (.cells #[.pointer (some ⟨e, 0, none⟩)] 171 (0, 0)) := by rw [hw3]; exact ((Fr.refl (S := No) _).alloc _ |>.alloc _).block_of (new_at w _) id
  have kp : w3.heap[w.heap.size + 1]? = some (.cells #[.int .i64 1] 3 (0, 0)) := by
    rw [hw3]; have := ((Fr.refl (S := No) _).alloc (.cells #[.int .i64 0] 3)).block_of (new_at (w.alloc (.cells #[.pointer (some ⟨e, 0, none⟩)] 171)) (.cells #[.int .i64 1] 3)) id
    simpa using this
  have kr : w3.heap[w.heap.size + 1 + 1]? = some (.cells #[.int .i64 0] 3 (0, 0)) := by
    rw [hw3]; have := new_at ((w.alloc (.cells #[.pointer (some ⟨e, 0, none⟩)] 171)).alloc (.cells #[.int .i64 1] 3)) (.cells #[.int .i64 0] 3)
    simpa using this
  have hs := step1_0 e b off l c (w.heap.size + 1) w.heap.size (w.heap.size + 1 + 1) w5 (f5.block_of he id) hl hn hne (f35.block_of kp id) (f35.block_of kq id) (f35.block_of kr id) (f5.cell_of h0 id)
  rw [hw5] at hs
  have le := lt_of_block he
  have HR := Lib.hid (eread154 e b off l c (w.heap.size + 1) w.heap.size (w.heap.size + 1 + 1) w3 (f3.block_of he id) _ hs)
  rw [← hw5] at HR
  have F5 := Lib.hid f5
  clear hs f35 kq kp kr f3 f5 he h0
  rw [hw3] at HR
  go_enter Tryz.func104, Tryz.ntmps104
  go_wp2_with fail
  with_reducible refine HR.out.mono ?_
  rintro x w7 ⟨rfl, w6, ⟨k6, h6, f6⟩, f7⟩
  have c7 : w7.cell? ⟨w.heap.size + 1 + 1, 0, none⟩ = some (.int .i64 0) := f7.cell_of (by rw [cell_at k6]; rfl) id
  obtain ⟨o', c', g1, g2, g3⟩ := h6
  have G1 := Lib.hid (f7.block_of g1 id)
  have F7 := Lib.hid ((F5.out.of_no (S := fun k => k = e)).trans (f6.trans f7 (fun _ _ e => e.elim)) (fun k hk e => by rcases e with e | e; exact e; omega))
  clear k6 f6 f7 g1
  go_wp2_with fail
  exact bodyPost_ret (v := .int .i64 0) (by simp [results, Tryz.results104, go_sem, c7]) rfl ⟨rfl, ⟨o', c', G1.out, g2, g3⟩, F7.out⟩

set_option maxRecDepth 100000 in
theorem enum2_0 (e b off l c : Nat) (w : World) (he : Ey w e b off l c) (hl : l ≤ c) (hn : 2 ≤ l) (hne : b ≠ e) (h0 : w.cell? ⟨b, off, none⟩ = some (.int .u8 0)) (h1 : w.cell? ⟨b, off + 1, none⟩ = some (.int .u8 0)) :
    Calls Tryz.prog 104 #[.pointer (some ⟨e, 0, none⟩), .int .i64 2] w fun x w' => x = .returned (.int .i64 0) ∧ (∃ off' c', Ey w' e b off' (l - 2) c' ∧ l - 2 ≤ c' ∧ (l - 2 = 0 ∨ off' = off + 2)) ∧ Fr (fun k => k = e) w w' := by
  have hmf : ∀ (fn : Fn) (first cap : Array Value) (w : World), (Instr.makeFunc fn first cap).run Tryz.prog w = .ok (.func fn first cap) w := fun _ _ _ _ => rfl
  obtain ⟨w3, hw3⟩ : ∃ w3, w3 = ((w.alloc (.cells #[.pointer (some ⟨e, 0, none⟩)] 171)).alloc (.cells #[.int .i64 2] 3)).alloc (.cells #[.int .i64 0] 3) := ⟨_, rfl⟩
  obtain ⟨w5, hw5⟩ : ∃ w5, w5 = (w3.alloc (.cells #[.pointer (some ⟨e, 0, none⟩)] 171)).alloc (.cells #[.slice (some ⟨b, off, none⟩) l c] 27) := ⟨_, rfl⟩
  have f3 : Fr No w w3 := by rw [hw3]; exact (((Fr.refl w).alloc _).alloc _).alloc _
  have f35 : Fr No w3 w5 := by rw [hw5]; exact ((Fr.refl w3).alloc _).alloc _
  have f5 : Fr No w w5 := f3.trans f35 (fun _ _ e => e)
  have kq : w3.heap[w.heap.size]? = some (.cells #[.pointer (some ⟨e, 0, none⟩)] 171 (0, 0)) := by rw [hw3]; exact ((Fr.refl (S := No) _).alloc _ |>.alloc _).block_of (new_at w _) id
  have kp : w3.heap[w.heap.size + 1]? = some (.cells #[.int .i64 2] 3 (0, 0)) := by
    rw [hw3]; have := ((Fr.refl (S := No) _).alloc (.cells #[.int .i64 0] 3)).block_of (new_at (w.alloc (.cells #[.pointer (some ⟨e, 0, none⟩)] 171)) (.cells #[.int .i64 2] 3)) id
    simpa using this
  have kr : w3.heap[w.heap.size + 1 + 1]? = some (.cells #[.int .i64 0] 3 (0, 0)) := by
    rw [hw3]; have := new_at ((w.alloc (.cells #[.pointer (some ⟨e, 0, none⟩)] 171)).alloc (.cells #[.int .i64 2] 3)) (.cells #[.int .i64 0] 3)
    simpa using this
  have hs := step2_0 e b off l c (w.heap.size + 1) w.heap.size (w.heap.size + 1 + 1) w5 (f5.block_of he id) hl hn hne (f35.block_of kp id) (f35.block_of kq id) (f35.block_of kr id) (f5.cell_of h0 id) (f5.cell_of h1 id)
  rw [hw5] at hs
  have le := lt_of_block he
  have HR := Lib.hid (eread154 e b off l c (w.heap.size + 1) w.heap.size (w.heap.size + 1 + 1) w3 (f3.block_of he id) _ hs)
  rw [← hw5] at HR
  have F5 := Lib.hid f5
  clear hs f35 kq kp kr f3 f5 he h0 h1
  rw [hw3] at HR
  go_enter Tryz.func104, Tryz.ntmps104
  go_wp2_with fail
  with_reducible refine HR.out.mono ?_
  rintro x w7 ⟨rfl, w6, ⟨k6, h6, f6⟩, f7⟩
  have c7 : w7.cell? ⟨w.heap.size + 1 + 1, 0, none⟩ = some (.int .i64 0) := f7.cell_of (by rw [cell_at k6]; rfl) id
  obtain ⟨o', c', g1, g2, g3⟩ := h6
  have G1 := Lib.hid (f7.block_of g1 id)
  have F7 := Lib.hid ((F5.out.of_no (S := fun k => k = e)).trans (f6.trans f7 (fun _ _ e => e.elim)) (fun k hk e => by rcases e with e | e; exact e; omega))
  clear k6 f6 f7 g1
  go_wp2_with fail
  exact bodyPost_ret (v := .int .i64 0) (by simp [results, Tryz.results104, go_sem, c7]) rfl ⟨rfl, ⟨o', c', G1.out, g2, g3⟩, F7.out⟩

set_option maxRecDepth 100000 in
theorem enum2_2 (e b off l c : Nat) (w : World) (he : Ey w e b off l c) (hl : l ≤ c) (hn : 2 ≤ l) (hne : b ≠ e) (h0 : w.cell? ⟨b, off, none⟩ = some (.int .u8 0)) (h1 : w.cell? ⟨b, off + 1, none⟩ = some (.int .u8 2)) :
    Calls Tryz.prog 104 #[.pointer (some ⟨e, 0, none⟩), .int .i64 2] w fun x w' => x = .returned (.int .i64 2) ∧ (∃ off' c', Ey w' e b off' (l - 2) c' ∧ l - 2 ≤ c' ∧ (l - 2 = 0 ∨ off' = off + 2)) ∧ Fr (fun k => k = e) w w' := by
  have hmf : ∀ (fn : Fn) (first cap : Array Value) (w : World), (Instr.makeFunc fn first cap).run Tryz.prog w = .ok (.func fn first cap) w := fun _ _ _ _ => rfl
  obtain ⟨w3, hw3⟩ : ∃ w3, w3 = ((w.alloc (.cells #[.pointer (some ⟨e, 0, none⟩)] 171)).alloc (.cells #[.int .i64 2] 3)).alloc (.cells #[.int .i64 0] 3) := ⟨_, rfl⟩
  obtain ⟨w5, hw5⟩ : ∃ w5, w5 = (w3.alloc (.cells #[.pointer (some ⟨e, 0, none⟩)] 171)).alloc (.cells #[.slice (some ⟨b, off, none⟩) l c] 27) := ⟨_, rfl⟩
  have f3 : Fr No w w3 := by rw [hw3]; exact (((Fr.refl w).alloc _).alloc _).alloc _
  have f35 : Fr No w3 w5 := by rw [hw5]; exact ((Fr.refl w3).alloc _).alloc _
  have f5 : Fr No w w5 := f3.trans f35 (fun _ _ e => e)
  have kq : w3.heap[w.heap.size]? = some (.cells #[.pointer (some ⟨e, 0, none⟩)] 171 (0, 0)) := by rw [hw3]; exact ((Fr.refl (S := No) _).alloc _ |>.alloc _).block_of (new_at w _) id
  have kp : w3.heap[w.heap.size + 1]? = some (.cells #[.int .i64 2] 3 (0, 0)) := by
    rw [hw3]; have := ((Fr.refl (S := No) _).alloc (.cells #[.int .i64 0] 3)).block_of (new_at (w.alloc (.cells #[.pointer (some ⟨e, 0, none⟩)] 171)) (.cells #[.int .i64 2] 3)) id
    simpa using this
  have kr : w3.heap[w.heap.size + 1 + 1]? = some (.cells #[.int .i64 0] 3 (0, 0)) := by
    rw [hw3]; have := new_at ((w.alloc (.cells #[.pointer (some ⟨e, 0, none⟩)] 171)).alloc (.cells #[.int .i64 2] 3)) (.cells #[.int .i64 0] 3)
    simpa using this
  have hs := step2_2 e b off l c (w.heap.size + 1) w.heap.size (w.heap.size + 1 + 1) w5 (f5.block_of he id) hl hn hne (f35.block_of kp id) (f35.block_of kq id) (f35.block_of kr id) (f5.cell_of h0 id) (f5.cell_of h1 id)
  rw [hw5] at hs
  have le := lt_of_block he
  have HR := Lib.hid (eread154 e b off l c (w.heap.size + 1) w.heap.size (w.heap.size + 1 + 1) w3 (f3.block_of he id) _ hs)
  rw [← hw5] at HR
  have F5 := Lib.hid f5
  clear hs f35 kq kp kr f3 f5 he h0 h1
  rw [hw3] at HR
  go_enter Tryz.func104, Tryz.ntmps104
  go_wp2_with fail
  with_reducible refine HR.out.mono ?_
  rintro x w7 ⟨rfl, w6, ⟨k6, h6, f6⟩, f7⟩
  have c7 : w7.cell? ⟨w.heap.size + 1 + 1, 0, none⟩ = some (.int .i64 2) := f7.cell_of (by rw [cell_at k6]; rfl) id
  obtain ⟨o', c', g1, g2, g3⟩ := h6
  have G1 := Lib.hid (f7.block_of g1 id)
  have F7 := Lib.hid ((F5.out.of_no (S := fun k => k = e)).trans (f6.trans f7 (fun _ _ e => e.elim)) (fun k hk e => by rcases e with e | e; exact e; omega))
  clear k6 f6 f7 g1
  go_wp2_with fail
  exact bodyPost_ret (v := .int .i64 2) (by simp [results, Tryz.results104, go_sem, c7]) rfl ⟨rfl, ⟨o', c', G1.out, g2, g3⟩, F7.out⟩

set_option maxRecDepth 100000 in
theorem enum3_0 (e b off l c : Nat) (w : World) (he : Ey w e b off l c) (hl : l ≤ c) (hn : 3 ≤ l) (hne : b ≠ e) (h0 : w.cell? ⟨b, off, none⟩ = some (.int .u8 0)) (h1 : w.cell? ⟨b, off + 1, none⟩ = some (.int .u8 0)) (h2 : w.cell? ⟨b, off + 2, none⟩ = some (.int .u8 0)) :
    Calls Tryz.prog 104 #[.pointer (some ⟨e, 0, none⟩), .int .i64 3] w fun x w' => x = .returned (.int .i64 0) ∧ (∃ off' c', Ey w' e b off' (l - 3) c' ∧ l - 3 ≤ c' ∧ (l - 3 = 0 ∨ off' = off + 3)) ∧ Fr (fun k => k = e) w w' := by
  have hmf : ∀ (fn : Fn) (first cap : Array Value) (w : World), (Instr.makeFunc fn first cap).run Tryz.prog w = .ok (.func fn first cap) w := fun _ _ _ _ => rfl
  obtain ⟨w3, hw3⟩ : ∃ w3, w3 = ((w.alloc (.cells #[.pointer (some ⟨e, 0, none⟩)] 171)).alloc (.cells #[.int .i64 3] 3)).alloc (.cells #[.int .i64 0] 3) := ⟨_, rfl⟩
  obtain ⟨w5, hw5⟩ : ∃ w5, w5 = (w3.alloc (.cells #[.pointer (some ⟨e, 0, none⟩)] 171)).alloc (.cells #[.slice (some ⟨b, off, none⟩) l c] 27) := ⟨_, rfl⟩
  have f3 : Fr No w w3 := by rw [hw3]; exact (((Fr.refl w).alloc _).alloc _).alloc _
  have f35 : Fr No w3 w5 := by rw [hw5]; exact ((Fr.refl w3).alloc _).alloc _
  have f5 : Fr No w w5 := f3.trans f35 (fun _ _ e => e)
  have kq : w3.heap[w.heap.size]? = some (.cells #[.pointer (some ⟨e, 0, none⟩)] 171 (0, 0)) := by rw [hw3]; exact ((Fr.refl (S := No) _).alloc _ |>.alloc _).block_of (new_at w _) id
  have kp : w3.heap[w.heap.size + 1]? = some (.cells #[.int .i64 3] 3 (0, 0)) := by
    rw [hw3]; have := ((Fr.refl (S := No) _).alloc (.cells #[.int .i64 0] 3)).block_of (new_at (w.alloc (.cells #[.pointer (some ⟨e, 0, none⟩)] 171)) (.cells #[.int .i64 3] 3)) id
    simpa using this
  have kr : w3.heap[w.heap.size + 1 + 1]? = some (.cells #[.int .i64 0] 3 (0, 0)) := by
    rw [hw3]; have := new_at ((w.alloc (.cells #[.pointer (some ⟨e, 0, none⟩)] 171)).alloc (.cells #[.int .i64 3] 3)) (.cells #[.int .i64 0] 3)
    simpa using this
  have hs := step3_0 e b off l c (w.heap.size + 1) w.heap.size (w.heap.size + 1 + 1) w5 (f5.block_of he id) hl hn hne (f35.block_of kp id) (f35.block_of kq id) (f35.block_of kr id) (f5.cell_of h0 id) (f5.cell_of h1 id) (f5.cell_of h2 id)
  rw [hw5] at hs
  have le := lt_of_block he
  have HR := Lib.hid (eread154 e b off l c (w.heap.size + 1) w.heap.size (w.heap.size + 1 + 1) w3 (f3.block_of he id) _ hs)
  rw [← hw5] at HR
  have F5 := Lib.hid f5
  clear hs f35 kq kp kr f3 f5 he h0 h1 h2
  rw [hw3] at HR
  go_enter Tryz.func104, Tryz.ntmps104
  go_wp2_with fail
  with_reducible refine HR.out.mono ?_
  rintro x w7 ⟨rfl, w6, ⟨k6, h6, f6⟩, f7⟩
  have c7 : w7.cell? ⟨w.heap.size + 1 + 1, 0, none⟩ = some (.int .i64 0) := f7.cell_of (by rw [cell_at k6]; rfl) id
  obtain ⟨o', c', g1, g2, g3⟩ := h6
  have G1 := Lib.hid (f7.block_of g1 id)
  have F7 := Lib.hid ((F5.out.of_no (S := fun k => k = e)).trans (f6.trans f7 (fun _ _ e => e.elim)) (fun k hk e => by rcases e with e | e; exact e; omega))
  clear k6 f6 f7 g1
  go_wp2_with fail
  exact bodyPost_ret (v := .int .i64 0) (by simp [results, Tryz.results104, go_sem, c7]) rfl ⟨rfl, ⟨o', c', G1.out, g2, g3⟩, F7.out⟩
end Go.Proofs.YtlcojhddnpmgmaaGreat
