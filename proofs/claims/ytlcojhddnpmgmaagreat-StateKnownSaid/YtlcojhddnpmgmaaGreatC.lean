/- The window's Ask, walked. -/
import Derived.Test.YtlcojhddnpmgmaaGreatB
import Derived.Deep.RegionHeld3
import Derived.Outline
namespace Go.Proofs.YtlcojhddnpmgmaaGreat
open Go.RowKit

def Win (w : World) (win : Nat) (row : Value) : Prop := w.heap[win]? = some (.cells #[row, .pointer none, .pointer none, .pointer none, .bool true] 152 (0, 0))

set_option maxRecDepth 100000 in
set_option maxHeartbeats 800000 in
theorem ask_old (win : Nat) (row : Value) (w : World) (hw : Win w win row) : Calls Tryz.prog 53 #[.pointer (some ⟨win, 0, none⟩), .agg #[.int .i64 0, .int .i64 0, .int .i64 0]] w fun e w' => e = .returned (.tuple #[.int .i64 2, .slice none 0 0]) ∧ Fr No w w' := by
  have f0 : Fr No w (w.alloc (.cells #[.int .i64 0, .int .i64 0, .int .i64 0] 32)) := (Fr.refl w).alloc _
  have c4 : (w.alloc (.cells #[.int .i64 0, .int .i64 0, .int .i64 0] 32)).cell? ⟨win, 4, none⟩ = some (.bool true) := by rw [cell_at (f0.block_of hw id)]; rfl
  go_enter Tryz.func53, Tryz.ntmps53
  go_wp2_with fail
  refine (may_no _).mono ?_
  rintro e w1 ⟨rfl, f1⟩
  go_wp2_with fail
  go_ret2
  exact ⟨rfl, ((Fr.refl w).alloc _).trans f1 (fun _ _ e => e)⟩

set_option maxRecDepth 100000 in
set_option maxHeartbeats 800000 in
theorem ask_new (win : Nat) (n : Int) (w : World) (h1 : 1 ≤ n) (h2 : n ≤ 1073741824) (hw : Win w win (.pointer none)) : Calls Tryz.prog 53 #[.pointer (some ⟨win, 0, none⟩), .agg #[.int .i64 0, .int .i64 0, .int .i64 n]] w fun e w' => e = .returned (.tuple #[.int .i64 3, .slice none 0 0]) ∧ Fr No w w' := by
  have f0 : Fr No w (w.alloc (.cells #[.int .i64 0, .int .i64 0, .int .i64 n] 32)) := (Fr.refl w).alloc _
  have c4 : (w.alloc (.cells #[.int .i64 0, .int .i64 0, .int .i64 n] 32)).cell? ⟨win, 4, none⟩ = some (.bool true) := by rw [cell_at (f0.block_of hw id)]; rfl
  have k0 := new_at w (.cells #[.int .i64 0, .int .i64 0, .int .i64 n] 32)
  have HW := Lib.hid hw
  clear hw
  go_enter Tryz.func53, Tryz.ntmps53
  go_wp2_with fail
  refine (may_yes n _ h1 h2).mono ?_
  rintro e w1 ⟨rfl, f1⟩
  have p0 : w1.cell? ⟨w.heap.size, 0, none⟩ = some (.int .i64 0) := by rw [cell_at (f1.block_of k0 id)]; rfl
  clear k0
  go_wp2_with fail
  refine (row_ win _ _ (f1.block_of (f0.block_of HW.out id) id)).mono ?_
  rintro e w2 ⟨rfl, rfl⟩
  go_wp2_with fail
  go_ret2
  exact ⟨rfl, f0.trans f1 (fun _ _ e => e)⟩

set_option maxRecDepth 100000 in
set_option maxHeartbeats 1600000 in
theorem ask_fresh (win r : Nat) (rep : Value) (w : World) (hw : Win w win (.pointer (some ⟨r, 0, none⟩))) (hr : w.heap[r]? = some (.cells #[.int .i64 0, .int .i64 0, .int .i64 1, rep] 119 (0, 0))) :
    Calls Tryz.prog 53 #[.pointer (some ⟨win, 0, none⟩), .agg #[.int .i64 0, .int .i64 0, .int .i64 2]] w fun e w' => e = .returned (.tuple #[.int .i64 0, .slice none 0 0]) ∧ Fr No w w' := by
  have f0 : Fr No w (w.alloc (.cells #[.int .i64 0, .int .i64 0, .int .i64 2] 32)) := (Fr.refl w).alloc _
  have c4 : (w.alloc (.cells #[.int .i64 0, .int .i64 0, .int .i64 2] 32)).cell? ⟨win, 4, none⟩ = some (.bool true) := by rw [cell_at (f0.block_of hw id)]; rfl
  have k0 := new_at w (.cells #[.int .i64 0, .int .i64 0, .int .i64 2] 32)
  have HW := Lib.hid hw
  have HR := Lib.hid hr
  clear hw hr
  go_enter Tryz.func53, Tryz.ntmps53
  go_wp2_with fail
  refine (may_yes 2 _ (by decide) (by decide)).mono ?_
  rintro e w1 ⟨rfl, f1⟩
  have p0 : w1.cell? ⟨w.heap.size, 0, none⟩ = some (.int .i64 0) := by rw [cell_at (f1.block_of k0 id)]; rfl
  have p1 : w1.cell? ⟨w.heap.size, 1, none⟩ = some (.int .i64 0) := by rw [cell_at (f1.block_of k0 id)]; rfl
  have p2 : w1.cell? ⟨w.heap.size, 2, none⟩ = some (.int .i64 2) := by rw [cell_at (f1.block_of k0 id)]; rfl
  have F1 : Fr No w w1 := f0.trans f1 (fun _ _ e => e)
  have hr1 := F1.block_of HR.out id
  have q0 : w1.cell? ⟨r, 0, none⟩ = some (.int .i64 0) := by rw [cell_at hr1]; rfl
  have q1 : w1.cell? ⟨r, 1, none⟩ = some (.int .i64 0) := by rw [cell_at hr1]; rfl
  have q2 : w1.cell? ⟨r, 2, none⟩ = some (.int .i64 1) := by rw [cell_at hr1]; rfl
  clear k0 hr1
  go_wp2_with fail
  refine (row_ win _ _ (f1.block_of (f0.block_of HW.out id) id)).mono ?_
  rintro e w2 ⟨rfl, rfl⟩
  go_wp2_with fail
  go_region_held3 (fun w' => w'.cell? ⟨w.heap.size, 0, none⟩ = some (.int .i64 0) ∧ w'.cell? ⟨w.heap.size, 1, none⟩ = some (.int .i64 0) ∧ w'.cell? ⟨w.heap.size, 2, none⟩ = some (.int .i64 2) ∧ w'.cell? ⟨r, 0, none⟩ = some (.int .i64 0) ∧ w'.cell? ⟨r, 1, none⟩ = some (.int .i64 0) ∧ w'.cell? ⟨r, 2, none⟩ = some (.int .i64 1)) (first | go_keep | (go_split_ands; refine ⟨?_, ?_, ?_, ?_, ?_, ?_⟩ <;> exact f3.cell_of (by assumption) id))
    ((go_at_call 100; refine (kind_next _).mono ?_; rintro e w3 ⟨rfl, f3⟩))
  go_wp2_with fail
  go_ret2
  exact ⟨rfl, F1.drew.trans f3 (fun _ _ e => e)⟩

theorem slAt_own {w : World} {base : Nat} {v : Value} {bs : List UInt8} (h : w.ownsRow base 5 1 v bs.length (bs.map fun x => .int .u8 x.toNat)) (hne : v ≠ .slice none 0 0) :
    ∃ b c, SlIs w v bs b 0 c ∧ base ≤ b := by
  obtain ⟨_, h⟩ := h
  rcases h with ⟨rfl, hn⟩ | ⟨g, cap, cur, rfl, hg, hh, hn, _, hs, ht⟩
  · exact absurd rfl hne
  · refine ⟨g, cap, ⟨rfl, hn, lt_of_block hh, fun j x hj => ?_⟩, hg⟩
    have h1 : (bs.map fun x : UInt8 => Value.int .u8 x.toNat)[j]? = some (.int .u8 x.toNat) := by simp [hj]
    rw [← ht] at h1
    have h2 : cur.toList[j]? = some (.int .u8 x.toNat) := by
      rw [List.getElem?_take] at h1
      split at h1
      · exact h1
      · cases h1
    rw [Nat.zero_add, cell_at hh]
    simpa using h2
/-- bytes.Clone of bytes. -/
theorem clone_ (v : Value) (bs : List UInt8) (b off c : Nat) (w : World) (h : SlIs w v bs b off c) (hb : bs.length ≤ 1000000) : Calls Tryz.prog 101 #[v] w fun e w' => ∃ v' b' c', e = .returned v' ∧ SlIs w' v' bs b' 0 c' ∧ w.heap.size ≤ b' ∧ Fr No w w' := by
  obtain ⟨rfl, hl, hlt, hc⟩ := h
  refine (Tryz.bytes_Clone_at ⟨b, off, none⟩ bs.length c (bs.map fun x => (x.toNat : Int)) w (by simp) (by omega) (fun i hi => ?_)).mono ?_
  · have h2 : (Addr.mk b off none).add i = ⟨b, off + i, none⟩ := by unfold Addr.add; split <;> simp_all
    rw [h2, hc i bs[i] (List.getElem?_eq_getElem hi)]
    simp [List.getD, hi]
  · rintro e w' ⟨v', rfl, hown, hne, hbl⟩
    rw [List.map_map] at hown
    obtain ⟨b', c', h1, h2⟩ := slAt_own hown hne
    exact ⟨v', b', c', rfl, h1, h2, Fr.of_below hbl (Nat.le_refl _)⟩

set_option maxRecDepth 100000 in
set_option maxHeartbeats 1600000 in
theorem ask_again (win r : Nat) (rep : Value) (bs : List UInt8) (b off c : Nat) (w : World) (hw : Win w win (.pointer (some ⟨r, 0, none⟩))) (hr : w.heap[r]? = some (.cells #[.int .i64 0, .int .i64 0, .int .i64 1, rep] 119 (0, 0))) (hs : SlIs w rep bs b off c) (hb : bs.length ≤ 1000000) :
    Calls Tryz.prog 53 #[.pointer (some ⟨win, 0, none⟩), .agg #[.int .i64 0, .int .i64 0, .int .i64 1]] w fun e w' => ∃ v' b' c', e = .returned (.tuple #[.int .i64 1, v']) ∧ SlIs w' v' bs b' 0 c' ∧ w.heap.size ≤ b' ∧ Fr No w w' := by
  have f0 : Fr No w (w.alloc (.cells #[.int .i64 0, .int .i64 0, .int .i64 1] 32)) := (Fr.refl w).alloc _
  have c4 : (w.alloc (.cells #[.int .i64 0, .int .i64 0, .int .i64 1] 32)).cell? ⟨win, 4, none⟩ = some (.bool true) := by rw [cell_at (f0.block_of hw id)]; rfl
  have k0 := new_at w (.cells #[.int .i64 0, .int .i64 0, .int .i64 1] 32)
  have HW := Lib.hid hw
  have HR := Lib.hid hr
  have HS := Lib.hid hs
  clear hw hr hs
  go_enter Tryz.func53, Tryz.ntmps53
  go_wp2_with fail
  refine (may_yes 1 _ (by decide) (by decide)).mono ?_
  rintro e w1 ⟨rfl, f1⟩
  have p0 : w1.cell? ⟨w.heap.size, 0, none⟩ = some (.int .i64 0) := by rw [cell_at (f1.block_of k0 id)]; rfl
  have p1 : w1.cell? ⟨w.heap.size, 1, none⟩ = some (.int .i64 0) := by rw [cell_at (f1.block_of k0 id)]; rfl
  have p2 : w1.cell? ⟨w.heap.size, 2, none⟩ = some (.int .i64 1) := by rw [cell_at (f1.block_of k0 id)]; rfl
  have F1 : Fr No w w1 := f0.trans f1 (fun _ _ e => e)
  have hr1 := F1.block_of HR.out id
  have q0 : w1.cell? ⟨r, 0, none⟩ = some (.int .i64 0) := by rw [cell_at hr1]; rfl
  have q1 : w1.cell? ⟨r, 1, none⟩ = some (.int .i64 0) := by rw [cell_at hr1]; rfl
  have q2 : w1.cell? ⟨r, 2, none⟩ = some (.int .i64 1) := by rw [cell_at hr1]; rfl
  clear k0 hr1
  go_wp2_with fail
  refine (row_ win _ _ (f1.block_of (f0.block_of HW.out id) id)).mono ?_
  rintro e w2 ⟨rfl, rfl⟩
  go_wp2_with fail
  go_region_held3 (fun w' => w'.cell? ⟨w.heap.size, 0, none⟩ = some (.int .i64 0) ∧ w'.cell? ⟨w.heap.size, 1, none⟩ = some (.int .i64 0) ∧ w'.cell? ⟨w.heap.size, 2, none⟩ = some (.int .i64 1) ∧ w'.cell? ⟨r, 0, none⟩ = some (.int .i64 0) ∧ w'.cell? ⟨r, 1, none⟩ = some (.int .i64 0) ∧ w'.cell? ⟨r, 2, none⟩ = some (.int .i64 1)) (first | go_keep | (go_split_ands; refine ⟨?_, ?_, ?_, ?_, ?_, ?_⟩ <;> exact f3.cell_of (by assumption) id))
    ((go_at_call 100; refine (kind_same _).mono ?_; rintro e w3 ⟨rfl, f3⟩))
  have F3 : Fr No w w3 := F1.drew.trans f3 (fun _ _ e => e)
  have r3 : w3.cell? ⟨r, 3, none⟩ = some rep := by rw [cell_at (F3.block_of HR.out id)]; rfl
  clear p0 p1 p2 q0 q1 q2
  go_wp2_with fail
  refine (clone_ rep bs b off c _ ⟨HS.out.1, HS.out.2.1, Nat.lt_of_lt_of_le HS.out.2.2.1 F3.size, fun j x hj => F3.cell_of (HS.out.2.2.2 j x hj) id⟩ hb).mono ?_
  rintro e w4 ⟨v', b', c', rfl, hsl, hbb, f4⟩
  go_wp2_with fail
  go_ret2
  exact ⟨v', b', c', rfl, hsl, Nat.le_trans F3.size hbb, F3.trans f4 (fun _ _ e => e)⟩
end Go.Proofs.YtlcojhddnpmgmaaGreat
