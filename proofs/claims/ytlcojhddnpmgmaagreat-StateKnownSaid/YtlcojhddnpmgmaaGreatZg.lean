/- Reading a note: going on, counts, a new eye. Walked. -/
import Derived.Test.YtlcojhddnpmgmaaGreatZf
import Derived.Outline
namespace Go.Proofs.YtlcojhddnpmgmaaGreat
open Go.RowKit

theorem neweye_ (v : Value) (bs : List UInt8) (b off c : Nat) (w : World) (h : SlIs w v bs b off c) (hb : bs.length ≤ 1000000) :
    Calls Tryz.prog 151 #[v] w fun x w' => ∃ e b' c', x = .returned (.pointer (some ⟨e, 0, none⟩)) ∧ Ey w' e b' 0 bs.length c' ∧ SlIs w' (.slice (some ⟨b', 0, none⟩) bs.length c') bs b' 0 c' ∧ b' ≠ e ∧ w.heap.size ≤ e ∧ w.heap.size ≤ b' ∧ Fr No w w' := by
  have hv := h.1
  have HC := Lib.hid (clone_ v bs b off c w h hb)
  subst hv
  clear h
  go_enter Tryz.func151, Tryz.ntmps151
  go_wp2_with fail
  refine HC.out.mono ?_
  rintro x w1 ⟨v', b', c', rfl, ⟨rfl, sl⟩, hb', f1⟩
  have SL := Lib.hid sl
  have F1 := Lib.hid f1
  have lb := sl.2.1
  clear sl f1
  go_wp2_with fail
  have FA : Fr No w1 (w1.alloc (.cells #[.bool true, .slice (some ⟨b', 0, none⟩) bs.length c', .int .i64 0] 253)) := (Fr.refl w1).alloc _
  exact bodyPost_ret (v := .pointer (some ⟨w1.heap.size, 0, none⟩)) (by simp [results, Tryz.results151, go_sem]) rfl ⟨_, b', c', rfl, new_at w1 _, ⟨rfl, SL.out.1, Nat.lt_of_lt_of_le SL.out.2.1 FA.size, fun j x hj => FA.cell_of (SL.out.2.2 j x hj) id⟩, by omega, F1.out.size, hb', F1.out.trans FA (fun _ _ e => e)⟩
end Go.Proofs.YtlcojhddnpmgmaaGreat
