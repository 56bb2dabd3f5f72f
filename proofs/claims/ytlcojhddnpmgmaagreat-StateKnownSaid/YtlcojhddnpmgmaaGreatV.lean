/- Small parts of Apply. Walked. -/
import Derived.Test.YtlcojhddnpmgmaaGreatU
import Derived.Outline
namespace Go.Proofs.YtlcojhddnpmgmaaGreat
open Go.RowKit

theorem drop_none (tk : Nat) (n : Int) (w : World) (h : w.heap[tk]? = some (.cells #[.bool true, .slice none 0 0] 155 (0, 0))) : Calls Tryz.prog 111 #[.pointer (some ⟨tk, 0, none⟩), .int .i64 n] w fun e w' => e = .returned (.int .i64 0) ∧ Fr No w w' := by
  have F0 : Fr No w (w.alloc (.cells #[.int .i64 n] 3)) := (Fr.refl w).alloc _
  have c1 : (w.alloc (.cells #[.int .i64 n] 3)).cell? ⟨tk, 1, none⟩ = some (.slice none 0 0) := by rw [cell_at (F0.block_of h id)]; rfl
  go_enter Tryz.func111, Tryz.ntmps111
  go_wp2
  go_ret
  exact ⟨rfl, F0⟩
theorem deed_make (w : World) : Calls Tryz.prog 48 #[.int .i64 1] w fun e w' => e = .returned (.func (Fn.func 82) #[] #[]) ∧ w' = w := by
  go_enter Tryz.func48, Tryz.ntmps48
  go_wp2
  go_ret
  exact ⟨rfl, rfl⟩
theorem deed_99 (w : World) : Calls Tryz.prog 48 #[.int .i64 99] w fun e w' => e = .returned .nilFunc ∧ w' = w := by
  go_enter Tryz.func48, Tryz.ntmps48
  go_wp2
  go_ret
  exact ⟨rfl, rfl⟩
theorem deed_10 (w : World) : Calls Tryz.prog 48 #[.int .i64 10] w fun e w' => e = .returned .nilFunc ∧ w' = w := by
  go_enter Tryz.func48, Tryz.ntmps48
  go_wp2
  go_ret
  exact ⟨rfl, rfl⟩
theorem made_ (w : World) (L : Loc) (C : Con) (h : At w L C) : Calls Tryz.prog 47 #[.pointer (some ⟨L.s, 0, none⟩)] w fun e w' => e = .returned (.bool true) ∧ w' = w := by
  have c9 : w.cell? ⟨L.s, 9, none⟩ = some (.pointer (some ⟨L.tr, 0, none⟩)) := by rw [cell_at h.s]; rfl
  go_enter Tryz.func47, Tryz.ntmps47
  go_wp2
  go_ret
  exact ⟨rfl, rfl⟩
theorem clock_ (w : World) (L : Loc) (C : Con) (h : At w L C) : Calls Tryz.prog 17 #[.pointer (some ⟨L.s, 0, none⟩)] w fun e w' => e = .returned (.int .i64 C.clock) ∧ w' = w := by
  have c2 : w.cell? ⟨L.s, 2, none⟩ = some (.int .i64 C.clock) := by rw [cell_at h.s]; rfl
  go_enter Tryz.func17, Tryz.ntmps17
  go_wp2_with fail
  refine (made_ w L C h).mono ?_
  rintro e w' ⟨rfl, rfl⟩
  go_wp2_with fail
  go_ret
  exact ⟨rfl, rfl⟩
theorem wlife_none (win : Nat) (w : World) (h : Win w win (.pointer none)) : Calls Tryz.prog 56 #[.pointer (some ⟨win, 0, none⟩), .int .i64 0] w fun e w' => e = .returned (.int .i64 (-1)) ∧ w' = w := by
  have c4 : w.cell? ⟨win, 4, none⟩ = some (.bool true) := by rw [cell_at h]; rfl
  go_enter Tryz.func56, Tryz.ntmps56
  go_wp2_with fail
  refine (row_ win _ _ h).mono ?_
  rintro e w' ⟨rfl, rfl⟩
  go_wp2_with fail
  go_ret
  exact ⟨rfl, rfl⟩
theorem life_ (w : World) (L : Loc) (C : Con) (h : At w L C) (hr : C.row = .pointer none) : Calls Tryz.prog 18 #[.pointer (some ⟨L.s, 0, none⟩), .int .i64 0] w fun e w' => e = .returned (.int .i64 (-1)) ∧ w' = w := by
  have c8 : w.cell? ⟨L.s, 8, none⟩ = some (.pointer (some ⟨L.win, 0, none⟩)) := by rw [cell_at h.s]; rfl
  have hw : Win w L.win (.pointer none) := by rw [← hr]; exact h.win
  have HH := Lib.hid h
  clear h hr
  go_enter Tryz.func18, Tryz.ntmps18
  go_wp2_with fail
  refine (made_ w L C HH.out).mono ?_
  rintro e w' ⟨rfl, rfl⟩
  go_wp2_with fail
  refine (wlife_none L.win _ hw).mono ?_
  rintro e w' ⟨rfl, rfl⟩
  go_wp2_with fail
  go_ret
  exact ⟨rfl, rfl⟩
end Go.Proofs.YtlcojhddnpmgmaaGreat
