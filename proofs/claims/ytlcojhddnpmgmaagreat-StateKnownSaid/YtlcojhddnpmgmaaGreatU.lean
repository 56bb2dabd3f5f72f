/- A request as the program has it; the window's Done. Walked. -/
import Derived.Test.YtlcojhddnpmgmaaGreatT
import Derived.Outline
namespace Go.Proofs.YtlcojhddnpmgmaaGreat
open Go.RowKit

set_option maxRecDepth 100000 in
set_option maxHeartbeats 3200000 in
theorem request_ (n kind : Int) (path : ByteArray) (w : World) : Calls Tryz.prog 16 #[.agg (req n kind path)] w fun e w' => e = .returned (.agg (req n kind path)) ∧ Fr No w w' := by
  unfold req
  go_enter Tryz.func16, Tryz.ntmps16
  go_wp2_with fail
  refine wp_loop_rounds 1 ?_; rw [rounds_succ]
  go_wp2_with fail
  exact bodyPost_ret (v := .agg #[.int .i64 0, .int .i64 0, .int .i64 n, .int .i64 kind, .string path, .string ⟨#[]⟩, .bool false, .bool false, .bool false, .int .i64 0, .int .i64 0, .int .i64 0, .slice none 0 0, .slice none 0 0]) (by simp [results, Tryz.results16, go_sem]) rfl ⟨rfl, by repeat (first | exact Fr.refl _ | apply Fr.alloc)⟩

def DonePost (w : World) (win : Nat) (n : Int) (bs : List UInt8) (x : Ending) (w' : World) : Prop :=
  ∃ r v b c, x = .returned (.int .i64 0) ∧ Win w' win (.pointer (some ⟨r, 0, none⟩)) ∧ w'.heap[r]? = some (.cells #[.int .i64 0, .int .i64 0, .int .i64 n, v] 119 (0, 0)) ∧ SlIs w' v bs b 0 c ∧ Fr (fun k => k = win) w w'

set_option maxRecDepth 100000 in
set_option maxHeartbeats 3200000 in
theorem done_ (win : Nat) (row : Value) (n k : Int) (bs : List UInt8) (b c : Nat) (w : World) (hw : Win w win row) (hv : SlIs w (.slice (some ⟨b, 0, none⟩) bs.length c) bs b 0 c) (hb : bs.length ≤ 1000000) (k1 : (k == 2) = false) (k2 : (k == 1) = false)
    (ha : ∀ w', Win w' win row → Fr No w w' → Calls Tryz.prog 53 #[.pointer (some ⟨win, 0, none⟩), .agg #[.int .i64 0, .int .i64 0, .int .i64 n]] w' fun e w'' => e = .returned (.tuple #[.int .i64 k, .slice none 0 0]) ∧ Fr No w' w'') :
    Calls Tryz.prog 113 #[.pointer (some ⟨win, 0, none⟩), .agg #[.int .i64 0, .int .i64 0, .int .i64 n], .slice (some ⟨b, 0, none⟩) bs.length c] w (DonePost w win n bs) := by
  have f0 : Fr No w (w.alloc (.cells #[.int .i64 0, .int .i64 0, .int .i64 n] 32)) := (Fr.refl w).alloc _
  have c4 : (w.alloc (.cells #[.int .i64 0, .int .i64 0, .int .i64 n] 32)).cell? ⟨win, 4, none⟩ = some (.bool true) := by rw [cell_at (f0.block_of hw id)]; rfl
  have k0 := new_at w (.cells #[.int .i64 0, .int .i64 0, .int .i64 n] 32)
  have HW := Lib.hid hw
  have lw := lt_of_block hw
  have HV := Lib.hid hv
  have HA := Lib.hid (ha _ (f0.block_of hw id) f0)
  clear hw hv ha
  go_enter Tryz.func113, Tryz.ntmps113
  go_wp2_with fail
  with_reducible refine HA.out.mono ?_
  rintro e w1 ⟨rfl, f1⟩
  have K1 := f1.block_of k0 id
  have F1 : Fr No w w1 := f0.trans f1 (fun _ _ e => e)
  have p0 : w1.cell? ⟨w.heap.size, 0, none⟩ = some (.int .i64 0) := by rw [cell_at K1]; rfl
  have p1 : w1.cell? ⟨w.heap.size, 1, none⟩ = some (.int .i64 0) := by rw [cell_at K1]; rfl
  have p2 : w1.cell? ⟨w.heap.size, 2, none⟩ = some (.int .i64 n) := by rw [cell_at K1]; rfl
  clear k0 K1 c4
  go_wp2_with fail
  have HV1 := Lib.hid (show SlIs w1.drew (.slice (some ⟨b, 0, none⟩) bs.length c) bs b 0 c from ⟨rfl, HV.out.2.1, Nat.lt_of_lt_of_le HV.out.2.2.1 F1.size, fun j y hj => F1.cell_of (HV.out.2.2.2 j y hj) id⟩)
  have KW := Lib.hid (show w1.drew.heap[win]? = some (.cells #[row, .pointer none, .pointer none, .pointer none, .bool true] 152 (0, 0)) from F1.block_of HW.out id)
  have hlt := F1.size
  go_region_held3 (fun w' => w'.cell? ⟨w.heap.size, 0, none⟩ = some (.int .i64 0) ∧ w'.cell? ⟨w.heap.size, 1, none⟩ = some (.int .i64 0) ∧ w'.cell? ⟨w.heap.size, 2, none⟩ = some (.int .i64 n)) (first | go_keep | (go_split_ands; refine ⟨?_, ?_, ?_⟩ <;> exact f3.cell_of (by assumption) id))
    ((go_at_call 101; refine (clone_ _ bs b 0 c _ HV1.out hb).mono ?_; rintro e w3 ⟨v', b', c', rfl, ⟨rfl, hsl⟩, hbb, f3⟩; have cw : (w3.alloc (.cells #[.int .i64 0, .int .i64 0, .int .i64 n, .slice (some ⟨b', 0, none⟩) bs.length c'] 119)).cell? ⟨win, 0, none⟩ = some row := (by rw [cell_at (((Fr.refl (S := No) w3).alloc _).block_of (f3.block_of KW.out id) id)]; rfl); have zw : (w3.alloc (.cells #[.int .i64 0, .int .i64 0, .int .i64 n, .slice (some ⟨b', 0, none⟩) bs.length c'] 119)).frozen? ⟨win, 0, none⟩ = false := frozen_at (((Fr.refl (S := No) w3).alloc _).block_of (f3.block_of KW.out id) id) 0; have hne : win ≠ w.heap.size := by omega))
  all_goals
    go_wp2_with fail
    go_ret
    have F3 : Fr No w w3 := F1.drew.trans f3 (fun _ _ e => e)
    have G3 : Fr No w3 (w3.alloc (.cells #[.int .i64 0, .int .i64 0, .int .i64 n, .slice (some ⟨b', 0, none⟩) bs.length c'] 119)) := (Fr.refl w3).alloc _
    have h3 := F3.size
    have KA := G3.block_of (f3.block_of KW.out id) id
    have FS := Fr.setCell (S := fun k => k = win) (p := ⟨win, 0, none⟩) (Fr.refl (w3.alloc (.cells #[.int .i64 0, .int .i64 0, .int .i64 n, .slice (some ⟨b', 0, none⟩) bs.length c'] 119))) (.inl rfl) (.pointer (some ⟨w3.heap.size, 0, none⟩))
    have hb1 : w.heap.size ≤ b' := by have := F1.size; simp at hbb; omega
    refine ⟨w3.heap.size, .slice (some ⟨b', 0, none⟩) bs.length c', b', c', rfl, by simpa [Win] using setCell_at KA 0 (.pointer (some ⟨w3.heap.size, 0, none⟩)), setCell_off (new_at w3 _) (by omega) 0 _, ⟨rfl, hsl.1, Nat.lt_of_lt_of_le hsl.2.1 (Nat.le_trans G3.size FS.size), fun j y hj => FS.cell_of (G3.cell_of (hsl.2.2 j y hj) id) (by dsimp only; omega)⟩, ((F3.trans G3 (fun _ _ e => e)).of_no).trans FS (fun _ _ e => e)⟩
end Go.Proofs.YtlcojhddnpmgmaaGreat
