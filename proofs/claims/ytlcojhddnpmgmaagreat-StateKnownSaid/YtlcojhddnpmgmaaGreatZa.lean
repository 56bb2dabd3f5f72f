/- The eye's numbers. Walked. -/
import Derived.Test.YtlcojhddnpmgmaaGreatZ
import Derived.Outline
namespace Go.Proofs.YtlcojhddnpmgmaaGreat
open Go.RowKit

set_option maxRecDepth 100000 in
theorem step1_0 (e b off l c p q r : Nat) (w : World) (he : Ey w e b off l c) (hl : l ≤ c) (hn : 1 ≤ l) (hne : b ≠ e) (kp : w.heap[p]? = some (.cells #[.int .i64 1] 3 (0, 0))) (kq : w.heap[q]? = some (.cells #[.pointer (some ⟨e, 0, none⟩)] 171 (0, 0))) (kr : w.heap[r]? = some (.cells #[.int .i64 0] 3 (0, 0))) (h0 : w.cell? ⟨b, off, none⟩ = some (.int .u8 0)) :
    Calls Tryz.prog 154 #[.pointer (some ⟨p, 0, none⟩), .pointer (some ⟨q, 0, none⟩), .pointer (some ⟨r, 0, none⟩)] w fun x w' => x = .returned (.tuple #[]) ∧ w'.heap[r]? = some (.cells #[.int .i64 0] 3 (0, 0)) ∧ (∃ off' c', Ey w' e b off' (l - 1) c' ∧ l - 1 ≤ c' ∧ (l - 1 = 0 ∨ off' = off + 1)) ∧ Fr (fun k => k = e ∨ k = r) w w' := by
  have c1 : w.cell? ⟨p, 0, none⟩ = some (.int .i64 1) := by rw [cell_at kp]; rfl
  have c2 : w.cell? ⟨q, 0, none⟩ = some (.pointer (some ⟨e, 0, none⟩)) := by rw [cell_at kq]; rfl
  have z3 := frozen_at kr 0
  have HN := Lib.hid (number1_0 e b off l c w he hl hn hne h0)
  have KR := Lib.hid kr
  have HE := Lib.hid he
  clear he kp kq kr
  go_enter Tryz.func154, Tryz.ntmps154
  go_wp2_with (go_at_call 129; go_in)
  refine HN.out.mono ?_
  rintro x w1 ⟨rfl, h9, f1⟩
  have H9 := Lib.hid h9
  have k2 := f1.block_of KR.out (by have := KR.out; intro e'; rw [e', HE.out] at this; simp at this)
  have K2 := Lib.hid k2
  have z4 := frozen_at k2 0
  have c4 : w1.cell? ⟨r, 0, none⟩ = some (.int .i64 0) := by rw [cell_at k2]; rfl
  have F1 := Lib.hid f1
  clear h9 k2 z3
  go_wp2_with fail
  have FS : Fr (fun k => k = r) w1 (w1.setCell ⟨r, 0, none⟩ (.int .i64 0)) := Fr.setCell (S := fun k => k = r) (p := ⟨r, 0, none⟩) (Fr.refl w1) (.inl rfl) _
  have her : e ≠ r := by intro e'; have := KR.out; rw [← e', HE.out] at this; simp at this
  obtain ⟨o', c', g1, g2, g3⟩ := H9.out
  exact bodyPost_end (v := .tuple #[]) (by simp [results, Tryz.results154, go_sem]) rfl ⟨rfl, by simpa using setCell_at K2.out 0 (.int .i64 0), ⟨o', c', FS.block_of g1 her, g2, g3⟩, (F1.out.mono (fun _ _ e => .inl e)).trans FS (fun _ _ e => .inr e)⟩

set_option maxRecDepth 100000 in
theorem step2_0 (e b off l c p q r : Nat) (w : World) (he : Ey w e b off l c) (hl : l ≤ c) (hn : 2 ≤ l) (hne : b ≠ e) (kp : w.heap[p]? = some (.cells #[.int .i64 2] 3 (0, 0))) (kq : w.heap[q]? = some (.cells #[.pointer (some ⟨e, 0, none⟩)] 171 (0, 0))) (kr : w.heap[r]? = some (.cells #[.int .i64 0] 3 (0, 0))) (h0 : w.cell? ⟨b, off, none⟩ = some (.int .u8 0)) (h1 : w.cell? ⟨b, off + 1, none⟩ = some (.int .u8 0)) :
    Calls Tryz.prog 154 #[.pointer (some ⟨p, 0, none⟩), .pointer (some ⟨q, 0, none⟩), .pointer (some ⟨r, 0, none⟩)] w fun x w' => x = .returned (.tuple #[]) ∧ w'.heap[r]? = some (.cells #[.int .i64 0] 3 (0, 0)) ∧ (∃ off' c', Ey w' e b off' (l - 2) c' ∧ l - 2 ≤ c' ∧ (l - 2 = 0 ∨ off' = off + 2)) ∧ Fr (fun k => k = e ∨ k = r) w w' := by
  have c1 : w.cell? ⟨p, 0, none⟩ = some (.int .i64 2) := by rw [cell_at kp]; rfl
  have c2 : w.cell? ⟨q, 0, none⟩ = some (.pointer (some ⟨e, 0, none⟩)) := by rw [cell_at kq]; rfl
  have z3 := frozen_at kr 0
  have HN := Lib.hid (number2_0 e b off l c w he hl hn hne h0 h1)
  have KR := Lib.hid kr
  have HE := Lib.hid he
  clear he kp kq kr
  go_enter Tryz.func154, Tryz.ntmps154
  go_wp2_with (go_at_call 129; go_in)
  refine HN.out.mono ?_
  rintro x w1 ⟨rfl, h9, f1⟩
  have H9 := Lib.hid h9
  have k2 := f1.block_of KR.out (by have := KR.out; intro e'; rw [e', HE.out] at this; simp at this)
  have K2 := Lib.hid k2
  have z4 := frozen_at k2 0
  have c4 : w1.cell? ⟨r, 0, none⟩ = some (.int .i64 0) := by rw [cell_at k2]; rfl
  have F1 := Lib.hid f1
  clear h9 k2 z3
  go_wp2_with fail
  have FS : Fr (fun k => k = r) w1 (w1.setCell ⟨r, 0, none⟩ (.int .i64 0)) := Fr.setCell (S := fun k => k = r) (p := ⟨r, 0, none⟩) (Fr.refl w1) (.inl rfl) _
  have her : e ≠ r := by intro e'; have := KR.out; rw [← e', HE.out] at this; simp at this
  obtain ⟨o', c', g1, g2, g3⟩ := H9.out
  exact bodyPost_end (v := .tuple #[]) (by simp [results, Tryz.results154, go_sem]) rfl ⟨rfl, by simpa using setCell_at K2.out 0 (.int .i64 0), ⟨o', c', FS.block_of g1 her, g2, g3⟩, (F1.out.mono (fun _ _ e => .inl e)).trans FS (fun _ _ e => .inr e)⟩

set_option maxRecDepth 100000 in
theorem step2_2 (e b off l c p q r : Nat) (w : World) (he : Ey w e b off l c) (hl : l ≤ c) (hn : 2 ≤ l) (hne : b ≠ e) (kp : w.heap[p]? = some (.cells #[.int .i64 2] 3 (0, 0))) (kq : w.heap[q]? = some (.cells #[.pointer (some ⟨e, 0, none⟩)] 171 (0, 0))) (kr : w.heap[r]? = some (.cells #[.int .i64 0] 3 (0, 0))) (h0 : w.cell? ⟨b, off, none⟩ = some (.int .u8 0)) (h1 : w.cell? ⟨b, off + 1, none⟩ = some (.int .u8 2)) :
    Calls Tryz.prog 154 #[.pointer (some ⟨p, 0, none⟩), .pointer (some ⟨q, 0, none⟩), .pointer (some ⟨r, 0, none⟩)] w fun x w' => x = .returned (.tuple #[]) ∧ w'.heap[r]? = some (.cells #[.int .i64 2] 3 (0, 0)) ∧ (∃ off' c', Ey w' e b off' (l - 2) c' ∧ l - 2 ≤ c' ∧ (l - 2 = 0 ∨ off' = off + 2)) ∧ Fr (fun k => k = e ∨ k = r) w w' := by
  have c1 : w.cell? ⟨p, 0, none⟩ = some (.int .i64 2) := by rw [cell_at kp]; rfl
  have c2 : w.cell? ⟨q, 0, none⟩ = some (.pointer (some ⟨e, 0, none⟩)) := by rw [cell_at kq]; rfl
  have z3 := frozen_at kr 0
  have HN := Lib.hid (number2_2 e b off l c w he hl hn hne h0 h1)
  have KR := Lib.hid kr
  have HE := Lib.hid he
  clear he kp kq kr
  go_enter Tryz.func154, Tryz.ntmps154
  go_wp2_with (go_at_call 129; go_in)
  refine HN.out.mono ?_
  rintro x w1 ⟨rfl, h9, f1⟩
  have H9 := Lib.hid h9
  have k2 := f1.block_of KR.out (by have := KR.out; intro e'; rw [e', HE.out] at this; simp at this)
  have K2 := Lib.hid k2
  have z4 := frozen_at k2 0
  have c4 : w1.cell? ⟨r, 0, none⟩ = some (.int .i64 0) := by rw [cell_at k2]; rfl
  have F1 := Lib.hid f1
  clear h9 k2 z3
  go_wp2_with fail
  have FS : Fr (fun k => k = r) w1 (w1.setCell ⟨r, 0, none⟩ (.int .i64 2)) := Fr.setCell (S := fun k => k = r) (p := ⟨r, 0, none⟩) (Fr.refl w1) (.inl rfl) _
  have her : e ≠ r := by intro e'; have := KR.out; rw [← e', HE.out] at this; simp at this
  obtain ⟨o', c', g1, g2, g3⟩ := H9.out
  exact bodyPost_end (v := .tuple #[]) (by simp [results, Tryz.results154, go_sem]) rfl ⟨rfl, by simpa using setCell_at K2.out 0 (.int .i64 2), ⟨o', c', FS.block_of g1 her, g2, g3⟩, (F1.out.mono (fun _ _ e => .inl e)).trans FS (fun _ _ e => .inr e)⟩

set_option maxRecDepth 100000 in
theorem step3_0 (e b off l c p q r : Nat) (w : World) (he : Ey w e b off l c) (hl : l ≤ c) (hn : 3 ≤ l) (hne : b ≠ e) (kp : w.heap[p]? = some (.cells #[.int .i64 3] 3 (0, 0))) (kq : w.heap[q]? = some (.cells #[.pointer (some ⟨e, 0, none⟩)] 171 (0, 0))) (kr : w.heap[r]? = some (.cells #[.int .i64 0] 3 (0, 0))) (h0 : w.cell? ⟨b, off, none⟩ = some (.int .u8 0)) (h1 : w.cell? ⟨b, off + 1, none⟩ = some (.int .u8 0)) (h2 : w.cell? ⟨b, off + 2, none⟩ = some (.int .u8 0)) :
    Calls Tryz.prog 154 #[.pointer (some ⟨p, 0, none⟩), .pointer (some ⟨q, 0, none⟩), .pointer (some ⟨r, 0, none⟩)] w fun x w' => x = .returned (.tuple #[]) ∧ w'.heap[r]? = some (.cells #[.int .i64 0] 3 (0, 0)) ∧ (∃ off' c', Ey w' e b off' (l - 3) c' ∧ l - 3 ≤ c' ∧ (l - 3 = 0 ∨ off' = off + 3)) ∧ Fr (fun k => k = e ∨ k = r) w w' := by
  have c1 : w.cell? ⟨p, 0, none⟩ = some (.int .i64 3) := by rw [cell_at kp]; rfl
  have c2 : w.cell? ⟨q, 0, none⟩ = some (.pointer (some ⟨e, 0, none⟩)) := by rw [cell_at kq]; rfl
  have z3 := frozen_at kr 0
  have HN := Lib.hid (number3_0 e b off l c w he hl hn hne h0 h1 h2)
  have KR := Lib.hid kr
  have HE := Lib.hid he
  clear he kp kq kr
  go_enter Tryz.func154, Tryz.ntmps154
  go_wp2_with (go_at_call 129; go_in)
  refine HN.out.mono ?_
  rintro x w1 ⟨rfl, h9, f1⟩
  have H9 := Lib.hid h9
  have k2 := f1.block_of KR.out (by have := KR.out; intro e'; rw [e', HE.out] at this; simp at this)
  have K2 := Lib.hid k2
  have z4 := frozen_at k2 0
  have c4 : w1.cell? ⟨r, 0, none⟩ = some (.int .i64 0) := by rw [cell_at k2]; rfl
  have F1 := Lib.hid f1
  clear h9 k2 z3
  go_wp2_with fail
  have FS : Fr (fun k => k = r) w1 (w1.setCell ⟨r, 0, none⟩ (.int .i64 0)) := Fr.setCell (S := fun k => k = r) (p := ⟨r, 0, none⟩) (Fr.refl w1) (.inl rfl) _
  have her : e ≠ r := by intro e'; have := KR.out; rw [← e', HE.out] at this; simp at this
  obtain ⟨o', c', g1, g2, g3⟩ := H9.out
  exact bodyPost_end (v := .tuple #[]) (by simp [results, Tryz.results154, go_sem]) rfl ⟨rfl, by simpa using setCell_at K2.out 0 (.int .i64 0), ⟨o', c', FS.block_of g1 her, g2, g3⟩, (F1.out.mono (fun _ _ e => .inl e)).trans FS (fun _ _ e => .inr e)⟩
end Go.Proofs.YtlcojhddnpmgmaaGreat
