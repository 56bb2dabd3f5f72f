/- The eye's yes or no, its end. Walked. -/
import Derived.Test.YtlcojhddnpmgmaaGreatZb
import Derived.Outline
namespace Go.Proofs.YtlcojhddnpmgmaaGreat
open Go.RowKit

theorem efail_ (e b off l c : Nat) (w : World) (he : Ey w e b off l c) : Calls Tryz.prog 156 #[.pointer (some ⟨e, 0, none⟩)] w fun x w' => x = .returned (.int .i64 0) ∧ Fr No w w' := by
  have c0 : w.cell? ⟨e, 0, none⟩ = some (.bool true) := by rw [cell_at he]; rfl
  have c2 : w.cell? ⟨e, 2, none⟩ = some (.int .i64 0) := by rw [cell_at he]; rfl
  clear he
  go_enter Tryz.func156, Tryz.ntmps156
  go_wp2_with fail
  exact bodyPost_ret (v := .int .i64 0) (by simp [results, Tryz.results156, go_sem]) rfl ⟨rfl, Fr.refl _⟩

theorem eend_ (e b off c : Nat) (w : World) (he : Ey w e b off 0 c) : Calls Tryz.prog 152 #[.pointer (some ⟨e, 0, none⟩)] w fun x w' => x = .returned (.int .i64 0) ∧ Fr No w w' := by
  have HE := Lib.hid he
  clear he
  go_enter Tryz.func152, Tryz.ntmps152
  go_wp2_with fail
  refine (efail_ e b off 0 c w HE.out).mono ?_
  rintro x w1 ⟨rfl, f1⟩
  have c1 : w1.cell? ⟨e, 1, none⟩ = some (.slice (some ⟨b, off, none⟩) 0 c) := f1.cell_of (by rw [cell_at HE.out]; rfl) id
  have F1 := Lib.hid f1
  clear f1
  go_wp2_with fail
  exact bodyPost_ret (v := .int .i64 0) (by simp [results, Tryz.results152, go_sem]) rfl ⟨rfl, F1.out⟩

set_option maxRecDepth 100000 in
theorem stepb (e b off l c q r : Nat) (w : World) (he : Ey w e b off l c) (hl : l ≤ c) (hn : 1 ≤ l) (hne : b ≠ e) (kq : w.heap[q]? = some (.cells #[.pointer (some ⟨e, 0, none⟩)] 171 (0, 0))) (kr : w.heap[r]? = some (.cells #[.bool false] 4 (0, 0))) (h0 : w.cell? ⟨b, off, none⟩ = some (.int .u8 0)) :
    Calls Tryz.prog 157 #[.pointer (some ⟨q, 0, none⟩), .pointer (some ⟨r, 0, none⟩)] w fun x w' => x = .returned (.tuple #[]) ∧ w'.heap[r]? = some (.cells #[.bool false] 4 (0, 0)) ∧ (∃ off' c', Ey w' e b off' (l - 1) c' ∧ l - 1 ≤ c' ∧ (l - 1 = 0 ∨ off' = off + 1)) ∧ Fr (fun k => k = e ∨ k = r) w w' := by
  have c2 : w.cell? ⟨q, 0, none⟩ = some (.pointer (some ⟨e, 0, none⟩)) := by rw [cell_at kq]; rfl
  have HN := Lib.hid (take_ e b off l c 1 w he hl hn)
  have KR := Lib.hid kr
  have HE := Lib.hid he
  clear he kq kr
  go_enter Tryz.func157, Tryz.ntmps157
  go_wp2_with fail
  refine HN.out.mono ?_
  rintro x w1 ⟨rfl, h9, f1⟩
  have H9 := Lib.hid h9
  have k2 := f1.block_of KR.out (by have := KR.out; intro e'; rw [e', HE.out] at this; simp at this)
  have K2 := Lib.hid k2
  have z4 := frozen_at k2 0
  have c4 : w1.cell? ⟨r, 0, none⟩ = some (.bool false) := by rw [cell_at k2]; rfl
  have d0 := f1.cell_of h0 hne
  have F1 := Lib.hid f1
  clear h9 k2 h0
  go_wp2_with fail
  have FS : Fr (fun k => k = r) w1 (w1.setCell ⟨r, 0, none⟩ (.bool false)) := Fr.setCell (S := fun k => k = r) (p := ⟨r, 0, none⟩) (Fr.refl w1) (.inl rfl) _
  have her : e ≠ r := by intro e'; have := KR.out; rw [← e', HE.out] at this; simp at this
  obtain ⟨o', c', g1, g2, g3⟩ := H9.out
  exact bodyPost_end (v := .tuple #[]) (by simp [results, Tryz.results157, go_sem]) rfl ⟨rfl, by simpa using setCell_at K2.out 0 (.bool false), ⟨o', c', FS.block_of g1 her, g2, g3⟩, (F1.out.mono (fun _ _ e => .inl e)).trans FS (fun _ _ e => .inr e)⟩
end Go.Proofs.YtlcojhddnpmgmaaGreat
