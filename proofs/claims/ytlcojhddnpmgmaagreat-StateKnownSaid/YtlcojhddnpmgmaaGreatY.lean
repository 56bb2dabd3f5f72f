/- The eye: what it takes, what it reads. Walked. -/
import Derived.Test.YtlcojhddnpmgmaaGreatX
import Derived.Outline
namespace Go.Proofs.YtlcojhddnpmgmaaGreat
open Go.RowKit

/-- an eye that has not failed: the block and the place that it looks at, how much is left. -/
def Ey (w : World) (e b off l c : Nat) : Prop := w.heap[e]? = some (.cells #[.bool true, .slice (some ⟨b, off, none⟩) l c, .int .i64 0] 253 (0, 0))

set_option maxRecDepth 100000 in
set_option maxHeartbeats 1600000 in
theorem take_ (e b off l c n : Nat) (w : World) (he : Ey w e b off l c) (hl : l ≤ c) (hn : n ≤ l) :
    Calls Tryz.prog 158 #[.pointer (some ⟨e, 0, none⟩), .int .i64 n] w fun x w' => x = .returned (.slice (some ⟨b, off, none⟩) n n) ∧ (∃ off' c', Ey w' e b off' (l - n) c' ∧ l - n ≤ c' ∧ (l - n = 0 ∨ off' = off + n)) ∧ Fr (fun k => k = e) w w' := by
  have c1 : w.cell? ⟨e, 1, none⟩ = some (.slice (some ⟨b, off, none⟩) l c) := by rw [cell_at he]; rfl
  have z1 := frozen_at he 1
  have HE := Lib.hid he
  have t2 : (decide ((l : Int) < (n : Int))) = false := by simp; omega
  clear he
  go_enter Tryz.func158, Tryz.ntmps158
  go_wp2_with fail
  · refine bodyPost_ret (v := .slice (some ⟨b, off, none⟩) n n) (by simp [results, Tryz.results158, go_sem]) rfl ⟨rfl, ⟨off, 0, by simpa [Ey] using setCell_at HE.out 1 (.slice (some ⟨b, off, none⟩) (l - n) 0), by omega, .inl (by omega)⟩, Fr.setCell (S := fun k => k = e) (p := ⟨e, 1, none⟩) (Fr.refl w) (.inl rfl) _⟩
  · refine bodyPost_ret (v := .slice (some ⟨b, off, none⟩) n n) (by simp [results, Tryz.results158, go_sem]) rfl ⟨rfl, ⟨off + n, c - n, by simpa [Ey] using setCell_at HE.out 1 (.slice (some ⟨b, off + n, none⟩) (l - n) (c - n)), by omega, .inr rfl⟩, Fr.setCell (S := fun k => k = e) (p := ⟨e, 1, none⟩) (Fr.refl w) (.inl rfl) _⟩

set_option maxRecDepth 100000 in
set_option maxHeartbeats 1600000 in
theorem number1_0 (e b off l c : Nat) (w : World) (he : Ey w e b off l c) (hl : l ≤ c) (hn : 1 ≤ l) (hne : b ≠ e) (h0 : w.cell? ⟨b, off, none⟩ = some (.int .u8 0)) :
    Calls Tryz.prog 155 #[.pointer (some ⟨e, 0, none⟩), .int .i64 1] w fun x w' => x = .returned (.int .i64 0) ∧ (∃ off' c', Ey w' e b off' (l - 1) c' ∧ l - 1 ≤ c' ∧ (l - 1 = 0 ∨ off' = off + 1)) ∧ Fr (fun k => k = e) w w' := by
  have HT := Lib.hid (take_ e b off l c 1 w he hl hn)
  clear he
  go_enter Tryz.func155, Tryz.ntmps155
  go_wp2_with fail
  refine HT.out.mono ?_
  rintro x w1 ⟨rfl, h9, f1⟩
  have H9 := Lib.hid h9
  have d0 := f1.cell_of h0 hne
  have F1 := Lib.hid f1
  clear h9 h0
  go_wp2_with fail
  refine wp_loop_rounds 2 ?_; rw [rounds_succ]
  go_wp2_with fail
  rw [rounds_succ]
  go_wp2_with fail
  have hb : bits .or .i64 0 0 = 0 := by kernel_rfl
  exact bodyPost_ret (v := .int .i64 0) (by simp [results, Tryz.results155, go_sem, hb]) rfl ⟨rfl, H9.out, F1.out⟩

set_option maxRecDepth 100000 in
set_option maxHeartbeats 1600000 in
theorem number2_0 (e b off l c : Nat) (w : World) (he : Ey w e b off l c) (hl : l ≤ c) (hn : 2 ≤ l) (hne : b ≠ e) (h0 : w.cell? ⟨b, off, none⟩ = some (.int .u8 0)) (h1 : w.cell? ⟨b, off + 1, none⟩ = some (.int .u8 0)) :
    Calls Tryz.prog 155 #[.pointer (some ⟨e, 0, none⟩), .int .i64 2] w fun x w' => x = .returned (.int .i64 0) ∧ (∃ off' c', Ey w' e b off' (l - 2) c' ∧ l - 2 ≤ c' ∧ (l - 2 = 0 ∨ off' = off + 2)) ∧ Fr (fun k => k = e) w w' := by
  have HT := Lib.hid (take_ e b off l c 2 w he hl hn)
  clear he
  go_enter Tryz.func155, Tryz.ntmps155
  go_wp2_with fail
  refine HT.out.mono ?_
  rintro x w1 ⟨rfl, h9, f1⟩
  have H9 := Lib.hid h9
  have d0 := f1.cell_of h0 hne
  have d1 := f1.cell_of h1 hne
  have F1 := Lib.hid f1
  clear h9 h0 h1
  go_wp2_with fail
  refine wp_loop_rounds 3 ?_; rw [rounds_succ]
  go_wp2_with fail
  rw [rounds_succ]
  go_wp2_with fail
  rw [rounds_succ]
  go_wp2_with fail
  have hb : bits .or .i64 (wrap64 (bits .or .i64 0 0 * 256)) 0 = 0 := by kernel_rfl
  exact bodyPost_ret (v := .int .i64 0) (by simp [results, Tryz.results155, go_sem, hb]) rfl ⟨rfl, H9.out, F1.out⟩

set_option maxRecDepth 100000 in
set_option maxHeartbeats 1600000 in
theorem number2_2 (e b off l c : Nat) (w : World) (he : Ey w e b off l c) (hl : l ≤ c) (hn : 2 ≤ l) (hne : b ≠ e) (h0 : w.cell? ⟨b, off, none⟩ = some (.int .u8 0)) (h1 : w.cell? ⟨b, off + 1, none⟩ = some (.int .u8 2)) :
    Calls Tryz.prog 155 #[.pointer (some ⟨e, 0, none⟩), .int .i64 2] w fun x w' => x = .returned (.int .i64 2) ∧ (∃ off' c', Ey w' e b off' (l - 2) c' ∧ l - 2 ≤ c' ∧ (l - 2 = 0 ∨ off' = off + 2)) ∧ Fr (fun k => k = e) w w' := by
  have HT := Lib.hid (take_ e b off l c 2 w he hl hn)
  clear he
  go_enter Tryz.func155, Tryz.ntmps155
  go_wp2_with fail
  refine HT.out.mono ?_
  rintro x w1 ⟨rfl, h9, f1⟩
  have H9 := Lib.hid h9
  have d0 := f1.cell_of h0 hne
  have d1 := f1.cell_of h1 hne
  have F1 := Lib.hid f1
  clear h9 h0 h1
  go_wp2_with fail
  refine wp_loop_rounds 3 ?_; rw [rounds_succ]
  go_wp2_with fail
  rw [rounds_succ]
  go_wp2_with fail
  rw [rounds_succ]
  go_wp2_with fail
  have hb : bits .or .i64 (wrap64 (bits .or .i64 0 0 * 256)) 2 = 2 := by kernel_rfl
  exact bodyPost_ret (v := .int .i64 2) (by simp [results, Tryz.results155, go_sem, hb]) rfl ⟨rfl, H9.out, F1.out⟩

set_option maxRecDepth 100000 in
set_option maxHeartbeats 1600000 in
theorem number3_0 (e b off l c : Nat) (w : World) (he : Ey w e b off l c) (hl : l ≤ c) (hn : 3 ≤ l) (hne : b ≠ e) (h0 : w.cell? ⟨b, off, none⟩ = some (.int .u8 0)) (h1 : w.cell? ⟨b, off + 1, none⟩ = some (.int .u8 0)) (h2 : w.cell? ⟨b, off + 2, none⟩ = some (.int .u8 0)) :
    Calls Tryz.prog 155 #[.pointer (some ⟨e, 0, none⟩), .int .i64 3] w fun x w' => x = .returned (.int .i64 0) ∧ (∃ off' c', Ey w' e b off' (l - 3) c' ∧ l - 3 ≤ c' ∧ (l - 3 = 0 ∨ off' = off + 3)) ∧ Fr (fun k => k = e) w w' := by
  have HT := Lib.hid (take_ e b off l c 3 w he hl hn)
  clear he
  go_enter Tryz.func155, Tryz.ntmps155
  go_wp2_with fail
  refine HT.out.mono ?_
  rintro x w1 ⟨rfl, h9, f1⟩
  have H9 := Lib.hid h9
  have d0 := f1.cell_of h0 hne
  have d1 := f1.cell_of h1 hne
  have d2 := f1.cell_of h2 hne
  have F1 := Lib.hid f1
  clear h9 h0 h1 h2
  go_wp2_with fail
  refine wp_loop_rounds 4 ?_; rw [rounds_succ]
  go_wp2_with fail
  rw [rounds_succ]
  go_wp2_with fail
  rw [rounds_succ]
  go_wp2_with fail
  rw [rounds_succ]
  go_wp2_with fail
  have hb : bits .or .i64 (wrap64 (bits .or .i64 (wrap64 (bits .or .i64 0 0 * 256)) 0 * 256)) 0 = 0 := by kernel_rfl
  exact bodyPost_ret (v := .int .i64 0) (by simp [results, Tryz.results155, go_sem, hb]) rfl ⟨rfl, H9.out, F1.out⟩

end Go.Proofs.YtlcojhddnpmgmaaGreat
