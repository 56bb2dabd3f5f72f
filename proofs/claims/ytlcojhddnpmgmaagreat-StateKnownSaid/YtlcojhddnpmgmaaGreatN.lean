/- The pen's Bool, Raw of nothing, Bytes. Walked. -/
import Derived.Test.YtlcojhddnpmgmaaGreatM
import Derived.Outline
namespace Go.Proofs.YtlcojhddnpmgmaaGreat
open Go.RowKit

theorem is_new (w : World) (zs : List UInt8) : SlIs (w.alloc (.cells (u8s zs).toArray 5)) (.slice (some ⟨w.heap.size, 0, none⟩) zs.length zs.length) zs w.heap.size 0 zs.length :=
  ⟨rfl, Nat.le_refl _, by simp, fun j x hj => by
    rw [Nat.zero_add, cell_at (new_at w _)]
    simp [u8s, hj]⟩

set_option maxRecDepth 100000 in
set_option maxHeartbeats 800000 in
theorem bool0 (p base : Nat) (bs : List UInt8) (w : World) (h : Pn w p base bs) (hl : bs.length ≤ 20000) :
    Calls Tryz.prog 124 #[.pointer (some ⟨p, 0, none⟩), .bool false] w fun e w' => e = .returned (.tuple #[]) ∧ Pn w' p base (bs ++ [0]) ∧ Fr (Pf w p base) w w' := by
  have HP := Lib.hid h
  clear h
  have F0 : Fr No w (w.alloc (.cells #[.int .u8 0] 5)) := (Fr.refl w).alloc _
  go_enter Tryz.func124, Tryz.ntmps124
  go_wp2_with fail
  refine (put_b p base bs [0] w.heap.size 0 1 (w.alloc (.cells #[.int .u8 0] 5)) (HP.out.no F0) (is_new w [0]) (by simp) (by omega) (by simp)).mono ?_
  rintro e w9 ⟨rfl, h9, f9⟩
  have H9 := Lib.hid h9
  clear h9
  go_wp2_with fail
  go_end0
  exact ⟨rfl, H9.out, F0.of_no.trans f9 (pf_back F0)⟩

set_option maxRecDepth 100000 in
set_option maxHeartbeats 800000 in
theorem raw0 (p base : Nat) (bs : List UInt8) (w : World) (h : Pn w p base bs) (hl : bs.length ≤ 20000) :
    Calls Tryz.prog 77 #[.pointer (some ⟨p, 0, none⟩), .slice none 0 0] w fun e w' => e = .returned (.tuple #[]) ∧ Pn w' p base (bs ++ [0, 0]) ∧ Fr (Pf w p base) w w' := by
  have HP := Lib.hid h
  clear h
  have F0 : Fr No w (w.alloc (.cells #[.int .u8 0, .int .u8 0] 5)) := (Fr.refl w).alloc _
  go_enter Tryz.func77, Tryz.ntmps77
  go_wp2_with fail
  refine (put_b p base bs [0, 0] w.heap.size 0 2 (w.alloc (.cells #[.int .u8 0, .int .u8 0] 5)) (HP.out.no F0) (is_new w [0, 0]) (by simp) (by omega) (by simp)).mono ?_
  rintro e w9 ⟨rfl, h9, f9⟩
  have H9 := Lib.hid h9
  clear h9
  go_wp2_with fail
  go_end0
  exact ⟨rfl, H9.out, F0.of_no.trans f9 (pf_back F0)⟩

set_option maxRecDepth 100000 in
set_option maxHeartbeats 800000 in
theorem pbytes_ (p base : Nat) (bs : List UInt8) (w : World) (h : Pn w p base bs) (h0 : bs ≠ []) (hl : bs.length ≤ 20000) :
    Calls Tryz.prog 60 #[.pointer (some ⟨p, 0, none⟩)] w fun e w' => ∃ v b c, e = .returned (.tuple #[v, .int .i64 0]) ∧ SlIs w' v bs b 0 c ∧ w.heap.size ≤ b ∧ Fr No w w' := by
  obtain ⟨v, hk, hown, hb⟩ := h
  have hne : v ≠ .slice none 0 0 := by
    rintro rfl
    rcases hown.2 with ⟨_, hn⟩ | ⟨g, cap, cur, hv, _⟩
    · exact h0 (List.eq_nil_of_length_eq_zero hn)
    · cases hv
  obtain ⟨g, c1, his, _⟩ := slAt_own hown hne
  have c0 : w.cell? ⟨p, 0, none⟩ = some v := by rw [cell_at hk]; rfl
  have cb : w.cell? ⟨p, 1, none⟩ = some (.int .i64 0) := by rw [cell_at hk]; rfl
  have HS := Lib.hid his
  clear hk hown hb hne h0 his
  go_enter Tryz.func60, Tryz.ntmps60
  go_wp2_with fail
  refine (clone_ v bs g 0 c1 _ HS.out (by omega)).mono ?_
  rintro e w4 ⟨v', b', c', rfl, hsl, hbb, f4⟩
  go_wp2_with fail
  go_ret2
  exact ⟨v', b', c', rfl, hsl, hbb, f4⟩
end Go.Proofs.YtlcojhddnpmgmaaGreat
