/- Reading a reply: its steps. Walked. -/
import Derived.Test.YtlcojhddnpmgmaaGreatZi
import Derived.Outline
namespace Go.Proofs.YtlcojhddnpmgmaaGreat
open Go.RowKit

/-- a reply being read: the eye, the bytes, the reply's cells. -/
structure Rd (wb w : World) (e b rb o l c : Nat) (cs : Array Value) : Prop where
  ey : Ey w e b o l c
  le : l ≤ c
  rep : w.heap[rb]? = some (.cells cs 29 (0, 0))
  by14 : ∀ j x, (repB 0 2)[j]? = some x → w.cell? ⟨b, j, none⟩ = some (.int .u8 x.toNat)
  be : b ≠ e
  re : rb ≠ e
  br : b ≠ rb
  bl : b < w.heap.size
  at14 : l = 0 ∨ o + l = 14
  fr : Fr (fun k => k = e ∨ k = rb) wb w
theorem Rd.no {wb w w' : World} {e b rb o l c : Nat} {cs : Array Value} (h : Rd wb w e b rb o l c cs) (f : Fr No w w') : Rd wb w' e b rb o l c cs :=
  ⟨f.block_of h.ey id, h.le, f.block_of h.rep id, fun j x hj => f.cell_of (h.by14 j x hj) id, h.be, h.re, h.br, Nat.lt_of_lt_of_le h.bl f.size, h.at14, h.fr.trans f (fun _ _ e => e.elim)⟩
theorem Rd.read {wb w w' : World} {e b rb o l c k : Nat} {cs : Array Value} (h : Rd wb w e b rb o l c cs) (hk : k ≤ l) (f : Fr (fun k => k = e) w w') (g : ∃ o' c', Ey w' e b o' (l - k) c' ∧ l - k ≤ c' ∧ (l - k = 0 ∨ o' = o + k)) : ∃ o' c', Rd wb w' e b rb o' (l - k) c' cs := by
  obtain ⟨o', c', g1, g2, g3⟩ := g
  exact ⟨o', c', g1, g2, f.block_of h.rep h.re, fun j x hj => f.cell_of (h.by14 j x hj) h.be, h.be, h.re, h.br, Nat.lt_of_lt_of_le h.bl f.size, by have := h.at14; omega, h.fr.trans f (fun _ _ e => .inl e)⟩
theorem Rd.store {wb w : World} {e b rb o l c : Nat} {cs : Array Value} (h : Rd wb w e b rb o l c cs) (j : Nat) (v : Value) : Rd wb (w.setCell ⟨rb, j, none⟩ v) e b rb o l c (cs.setIfInBounds j v) := by
  have f : Fr (fun k => k = rb) w (w.setCell ⟨rb, j, none⟩ v) := Fr.setCell (S := fun k => k = rb) (p := ⟨rb, j, none⟩) (Fr.refl w) (.inl rfl) v
  exact ⟨f.block_of h.ey (fun e => h.re e.symm), h.le, setCell_at h.rep j v, fun j x hj => f.cell_of (h.by14 j x hj) h.br, h.be, h.re, h.br, Nat.lt_of_lt_of_le h.bl f.size, h.at14, h.fr.trans f (fun _ _ e => .inr e)⟩

set_option maxRecDepth 100000 in
theorem rsteps_ (e b c rb : Nat) (w : World) (h : Rd w w e b rb 0 14 c #[.int .i64 0, .int .i64 0, .int .i64 0, .int .i64 0, .int .i64 0, .bool false, .slice none 0 0, .slice none 0 0]) :
    Calls Tryz.prog 103 #[.pointer (some ⟨e, 0, none⟩), .pointer (some ⟨rb, 0, none⟩)] w fun x w' => x = .returned (.tuple #[]) ∧ ∃ v' b' c' o' c2, SlIs w' v' [] b' 0 c' ∧ Ey w' e b o' 0 c2 ∧ w'.heap[rb]? = some (.cells #[.int .i64 0, .int .i64 2, .int .i64 0, .int .i64 0, .int .i64 0, .bool false, .slice none 0 0, v'] 29 (0, 0)) ∧ Fr (fun k => k = e ∨ k = rb) w w' := by
  have H := Lib.hid h
  clear h
  go_enter Tryz.func103, Tryz.ntmps103
  go_wp2_with fail
  refine (enum1_0 e b 0 14 c w H.out.ey H.out.le (by omega) H.out.be (H.out.by14 0 0 rfl)).mono ?_
  rintro x w1 ⟨rfl, g, f1⟩
  obtain ⟨o1, c1, r1⟩ := H.out.read (by omega) f1 g
  obtain rfl : o1 = 1 := by have := r1.at14; omega
  have R1 := Lib.hid r1
  have z1 := frozen_at r1.rep 0
  have q1 : w1.cell? ⟨rb, 0, none⟩ = some (.int .i64 0) := by rw [cell_at r1.rep]; rfl
  have F1 := Lib.hid f1
  clear g f1 r1
  go_wp2_with fail
  have S1 := R1.out.store 0 (.int .i64 0)
  refine (going_ e b 1 (14 - 1) c1 _ S1.ey).mono ?_
  rintro x w2 ⟨rfl, f2⟩
  have r2 := S1.no f2
  have R2 := Lib.hid r2
  have q2 : w2.cell? ⟨rb, 0, none⟩ = some (.int .i64 0) := by rw [cell_at r2.rep]; rfl
  clear z1 q1 r2 S1 f2
  go_wp2_with fail
  refine (nmust_yes 4 w2).mono ?_
  rintro x w3 ⟨rfl, rfl⟩
  clear q2
  go_wp2_with fail
  refine (enum2_2 e b 1 (14 - 1) c1 _ R2.out.ey R2.out.le (by omega) R2.out.be (R2.out.by14 1 _ rfl) (R2.out.by14 2 _ rfl)).mono ?_
  rintro x w4 ⟨rfl, g, f4⟩
  obtain ⟨o4, c4, r4⟩ := R2.out.read (by omega) f4 g
  obtain rfl : o4 = 3 := by have := r4.at14; omega
  have z4 := frozen_at r4.rep 1
  have q4 : w4.cell? ⟨rb, 1, none⟩ = some (.int .i64 0) := by rw [cell_at r4.rep]; rfl
  have R4 := Lib.hid (r4.store 1 (.int .i64 2))
  clear g f4 r4
  go_wp2_with fail
  refine (enum2_0 e b 3 (14 - 1 - 2) c4 _ R4.out.ey R4.out.le (by omega) R4.out.be (R4.out.by14 3 _ rfl) (R4.out.by14 4 _ rfl)).mono ?_
  rintro x w6 ⟨rfl, g, f6⟩
  obtain ⟨o6, c6, r6⟩ := R4.out.read (by omega) f6 g
  obtain rfl : o6 = 5 := by have := r6.at14; omega
  have z6 := frozen_at r6.rep 2
  have q6 : w6.cell? ⟨rb, 2, none⟩ = some (.int .i64 0) := by rw [cell_at r6.rep]; rfl
  have R6 := Lib.hid (r6.store 2 (.int .i64 0))
  clear g f6 r6
  go_wp2_with fail
  refine (enum1_0 e b 5 (14 - 1 - 2 - 2) c6 _ R6.out.ey R6.out.le (by omega) R6.out.be (R6.out.by14 5 _ rfl)).mono ?_
  rintro x w8 ⟨rfl, g, f8⟩
  obtain ⟨o8, c8, r8⟩ := R6.out.read (by omega) f8 g
  obtain rfl : o8 = 6 := by have := r8.at14; omega
  have z8 := frozen_at r8.rep 3
  have q8 : w8.cell? ⟨rb, 3, none⟩ = some (.int .i64 0) := by rw [cell_at r8.rep]; rfl
  have R8 := Lib.hid (r8.store 3 (.int .i64 0))
  clear g f8 r8
  go_wp2_with fail
  refine (enum3_0 e b 6 (14 - 1 - 2 - 2 - 1) c8 _ R8.out.ey R8.out.le (by omega) R8.out.be (R8.out.by14 6 _ rfl) (R8.out.by14 7 _ rfl) (R8.out.by14 8 _ rfl)).mono ?_
  rintro x w10 ⟨rfl, g, f10⟩
  obtain ⟨o10, c10, r10⟩ := R8.out.read (by omega) f10 g
  obtain rfl : o10 = 9 := by have := r10.at14; omega
  have z10 := frozen_at r10.rep 4
  have q10 : w10.cell? ⟨rb, 4, none⟩ = some (.int .i64 0) := by rw [cell_at r10.rep]; rfl
  have R10 := Lib.hid (r10.store 4 (.int .i64 0))
  clear g f10 r10
  go_wp2_with fail
  refine (ebool_ e b 9 (14 - 1 - 2 - 2 - 1 - 3) c10 _ R10.out.ey R10.out.le (by omega) R10.out.be (R10.out.by14 9 _ rfl)).mono ?_
  rintro x w12 ⟨rfl, g, f12⟩
  obtain ⟨o12, c12, r12⟩ := R10.out.read (by omega) f12 g
  obtain rfl : o12 = 10 := by have := r12.at14; omega
  have z12 := frozen_at r12.rep 5
  have q12 : w12.cell? ⟨rb, 5, none⟩ = some (.bool false) := by rw [cell_at r12.rep]; rfl
  have R12 := Lib.hid (r12.store 5 (.bool false))
  clear g f12 r12
  go_wp2_with fail
  refine (count_ e b 10 (14 - 1 - 2 - 2 - 1 - 3 - 1) c12 _ R12.out.ey R12.out.le (by omega) R12.out.be (R12.out.by14 10 _ rfl) (R12.out.by14 11 _ rfl)).mono ?_
  rintro x w14 ⟨rfl, g, f14⟩
  obtain ⟨o14, c14, r14⟩ := R12.out.read (by omega) f14 g
  obtain rfl : o14 = 12 := by have := r14.at14; omega
  have R14 := Lib.hid r14
  clear g f14 r14
  go_wp2_with fail
  refine wp_loop_rounds 1 ?_; rw [rounds_succ]
  go_wp2_with fail
  refine (eraw_ e b 12 _ c14 _ (by omega) w14 R14.out.ey R14.out.le (by omega) R14.out.be R14.out.bl (R14.out.by14 12 _ rfl) (R14.out.by14 13 _ rfl)).mono ?_
  rintro x w16 ⟨v', b', c', rfl, sl, g, f16⟩
  obtain ⟨rfl, sl2⟩ := sl
  have re := R14.out.re
  have k16 := f16.block_of R14.out.rep re
  have z16 := frozen_at k16 7
  have q16 : w16.cell? ⟨rb, 7, none⟩ = some (.slice none 0 0) := by rw [cell_at k16]; rfl
  have K16 := Lib.hid k16
  have SL := Lib.hid sl2
  have F16 := Lib.hid (R14.out.fr.trans f16 (fun _ _ e => .inl e))
  have G := Lib.hid g
  clear k16 sl2 f16 g
  go_wp2_with fail
  have FS : Fr (fun k => k = rb) w16 (w16.setCell ⟨rb, 7, none⟩ (.slice (some ⟨b', 0, none⟩) 0 c')) := Fr.setCell (S := fun k => k = rb) (p := ⟨rb, 7, none⟩) (Fr.refl w16) (.inl rfl) _
  obtain ⟨o', c2, g1⟩ := G.out
  exact bodyPost_end (v := .tuple #[]) (by simp [results, Tryz.results103, go_sem]) rfl ⟨rfl, _, b', c', o', c2, ⟨rfl, SL.out.1, Nat.lt_of_lt_of_le SL.out.2.1 FS.size, fun j y hj => by simp at hj⟩, FS.block_of g1 (fun e' => re e'.symm), setCell_at K16.out 7 _, F16.out.trans FS (fun _ _ e => .inr e)⟩
end Go.Proofs.YtlcojhddnpmgmaaGreat
