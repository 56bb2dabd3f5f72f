/- EncodeReply at a small reply; the window's Done. Walked. -/
import Derived.Test.YtlcojhddnpmgmaaGreatS
namespace Go.Proofs.YtlcojhddnpmgmaaGreat
open Go.RowKit

set_option maxRecDepth 100000 in
set_option maxHeartbeats 1600000 in
theorem written_ (rb e n : Nat) (he : e < 256) (hn : n < 256) (w : World) (hr : w.heap[rb]? = some (.cells (rep e n) 29 (0, 0))) :
    Calls Tryz.prog 162 #[.func (Fn.func 163) #[] #[.pointer (some ⟨rb, 0, none⟩)]] w fun x w' => ∃ v b c, x = .returned (.tuple #[v, .int .i64 0]) ∧ SlIs w' v (repB e n) b 0 c ∧ w.heap.size ≤ b ∧ Fr No w w' := by
  have hmf : ∀ (fn : Fn) (first cap : Array Value) (w : World), (Instr.makeFunc fn first cap).run Tryz.prog w = .ok (.func fn first cap) w := fun _ _ _ _ => rfl
  have F0 : Fr No w ((w.alloc (.cells #[.func (Fn.func 163) #[] #[.pointer (some ⟨rb, 0, none⟩)]] 123)).alloc (.cells #[.slice none 0 0] 27)) := ((Fr.refl w).alloc _).alloc _
  have ks : ((w.alloc (.cells #[.func (Fn.func 163) #[] #[.pointer (some ⟨rb, 0, none⟩)]] 123)).alloc (.cells #[.slice none 0 0] 27)).heap[w.heap.size]? = some (.cells #[.func (Fn.func 163) #[] #[.pointer (some ⟨rb, 0, none⟩)]] 123 (0, 0)) := ((Fr.refl (S := No) _).alloc _).block_of (new_at w _) id
  have ko : ((w.alloc (.cells #[.func (Fn.func 163) #[] #[.pointer (some ⟨rb, 0, none⟩)]] 123)).alloc (.cells #[.slice none 0 0] 27)).heap[w.heap.size + 1]? = some (.cells #[.slice none 0 0] 27 (0, 0)) := by simpa using new_at (w.alloc (.cells #[.func (Fn.func 163) #[] #[.pointer (some ⟨rb, 0, none⟩)]] 123)) (.cells #[.slice none 0 0] 27)
  have hsz : ((w.alloc (.cells #[.func (Fn.func 163) #[] #[.pointer (some ⟨rb, 0, none⟩)]] 123)).alloc (.cells #[.slice none 0 0] 27)).heap.size = w.heap.size + 1 + 1 := by simp
  have HR := Lib.hid (F0.block_of hr id)
  have KS := Lib.hid ks
  have KO := Lib.hid ko
  clear hr ks ko
  go_enter Tryz.func162, Tryz.ntmps162
  go_wp2_with fail
  generalize ((w.alloc (.cells #[.func (Fn.func 163) #[] #[.pointer (some ⟨rb, 0, none⟩)]] 123)).alloc (.cells #[.slice none 0 0] 27)) = w0 at *
  have HSZ := Lib.hid hsz
  clear hsz
  have fg : Fr No w0 (w0.alloc (.cells #[.int .i64 0] 25)) := (Fr.refl w0).alloc _
  refine (guard209 w.heap.size (w.heap.size + 1) (fun w1 => ∃ v b c, w1.heap[w.heap.size + 1]? = some (.cells #[v] 27 (0, 0)) ∧ SlIs w1 v (repB e n) b 0 c ∧ w.heap.size + 1 + 1 + 1 ≤ b ∧ Fr (fun k => k = w.heap.size + 1) w0 w1) w0 ?_).mono ?_
  · refine (written1_ w.heap.size (w.heap.size + 1) rb e n he hn _ (fg.block_of KS.out id) (fg.block_of KO.out id) (fg.block_of HR.out id)).mono ?_
    rintro x w1 ⟨v, b, c, rfl, k1, hs, hb, f1⟩
    have e0 := HSZ.out
    refine ⟨rfl, ⟨v, b, c, k1, hs, by simp at hb; omega, fg.of_no.trans f1 (fun _ _ e => e)⟩, f1.block_of (new_at w0 _) (by omega)⟩
  · rintro x w2 ⟨rfl, w1, ⟨v, b, c, k1, hs, hb, f1⟩, f2⟩
    have e0 := HSZ.out
    have k2 := f2.block_of k1 (by omega)
    have co : w2.cell? ⟨w.heap.size + 1, 0, none⟩ = some v := by rw [cell_at k2]; rfl
    have FX : Fr No w w2 := (F0.of_no.trans f1 (fun j hj e => by omega)).trans f2 (fun j hj e => by omega)
    have HS : Hid (SlIs w2 v (repB e n) b 0 c) := Lib.hid ⟨hs.1, hs.2.1, Nat.lt_of_lt_of_le hs.2.2.1 f2.size, fun j y hj => f2.cell_of (hs.2.2.2 j y hj) (by dsimp only; omega)⟩
    clear k1 hs f1 f2 k2
    go_wp2_with fail
    go_ret2
    exact ⟨v, b, c, rfl, HS.out, by omega, FX⟩

set_option maxRecDepth 100000 in
set_option maxHeartbeats 1600000 in
theorem encode_ (e n : Nat) (he : e < 256) (hn : n < 256) (w : World) : Calls Tryz.prog 112 #[.agg (rep e n)] w fun x w' => ∃ v b c, x = .returned (.tuple #[v, .int .i64 0]) ∧ SlIs w' v (repB e n) b 0 c ∧ w.heap.size ≤ b ∧ Fr No w w' := by
  have hmf : ∀ (fn : Fn) (first cap : Array Value) (w : World), (Instr.makeFunc fn first cap).run Tryz.prog w = .ok (.func fn first cap) w := fun _ _ _ _ => rfl
  have F0 : Fr No w (w.alloc (.cells (rep e n) 29)) := (Fr.refl w).alloc _
  have HW := Lib.hid (written_ w.heap.size e n he hn _ (new_at w (.cells (rep e n) 29)))
  unfold rep at *
  go_enter Tryz.func112, Tryz.ntmps112
  go_wp2_with fail
  with_reducible refine HW.out.mono ?_
  rintro x w1 ⟨v, b, c, rfl, hs, hb, f1⟩
  have HS := Lib.hid hs
  simp at hb
  clear hs
  go_wp2_with fail
  go_ret2
  exact ⟨v, b, c, rfl, HS.out, by omega, F0.trans f1 (fun _ _ e => e)⟩
end Go.Proofs.YtlcojhddnpmgmaaGreat
