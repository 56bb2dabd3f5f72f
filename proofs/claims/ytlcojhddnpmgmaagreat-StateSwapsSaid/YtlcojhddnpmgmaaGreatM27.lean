/- Parts: delta.May. Walked. (Printed by wip/tools/deltamay.py.) -/
import Derived.Test.YtlcojhddnpmgmaaGreatM06
set_option linter.unusedSimpArgs false
set_option linter.unusedVariables false
set_option maxRecDepth 100000
namespace Go.Proofs.YtlcojhddnpmgmaaGreat
open Go.RowKit
def DMayPost (w : World) (d : Dl) (e : Ending) (w' : World) : Prop := e = .returned (.bool (decide (mayDl d))) ∧ Fr No w w'
set_option maxHeartbeats 12800000 in
theorem dmay_ (d : Dl) (w : World) : Calls Tryz.prog 93 #[dlV d] w (DMayPost w d) := by
 have f0 : Fr No w (w.alloc (.cells (dlC d).toArray 61)) := (Fr.refl w).alloc _
 have k0 : DlAt (w.alloc (.cells (dlC d).toArray 61)) w.heap.size d := new_at w _
 have HQ : Hid (∀ (r : Bool) e w', (r = true ↔ mayDl d) → e = .returned (.bool r) → Fr No w w' → DMayPost w d e w') := Lib.hid (fun r e w' h he f => by
  have : decide (mayDl d) = r := by
   cases r
   ·rw [decide_eq_false_iff_not]; intro hx; cases h.2 hx
   ·rw [decide_eq_true_eq]; exact h.1 rfl
  exact ⟨by rw [this]; exact he, f⟩)
 generalize DMayPost w d = Q at *
 have HB : Hid (mayDl d ↔ 2 ≤ d.i ∧ d.i ≤ 128 ∧ 0 ≤ d.b ∧ d.b < 64 ∧ 0 ≤ d.s ∧ d.s ≤ 4096 ∧ mayPt d.t ∧ mayPt d.o ∧ ((d.k = 1 ∧ d.o = noPt) ∨ (d.k = 2 ∧ d.o = noPt ∧ d.t = noPt ∧ d.b = 0) ∨ (d.k = 3 ∧ d.s = 0))) := Lib.hid Iff.rfl
 have HMT : Hid (∀ W, Calls Tryz.prog 140 #[ptV d.t] W (MayPost W d.t)) := Lib.hid (fun W => bmay_ d.t W)
 have HMO : Hid (∀ W, Calls Tryz.prog 140 #[ptV d.o] W (MayPost W d.o)) := Lib.hid (fun W => bmay_ d.o W)
 have HZT : Hid (∀ W, Calls Tryz.prog 141 #[ptV d.t] W fun e w' => e = .returned (.bool (decide (d.t = noPt))) ∧ Fr No W w') := Lib.hid (fun W => zero_ 141 (.inr rfl) d.t W)
 have HZO : Hid (∀ W, Calls Tryz.prog 141 #[ptV d.o] W fun e w' => e = .returned (.bool (decide (d.o = noPt))) ∧ Fr No W w') := Lib.hid (fun W => zero_ 141 (.inr rfl) d.o W)
 unfold MayPost at HMT HMO
 have F0 := Lib.hid f0
 have HK0 := Lib.hid k0
 unfold ptV at *
 unfold dlV
 unfold dlC at F0 HK0
 clear f0 k0
 have HT : Hid (decide (mayPt d.t) = true ↔ mayPt d.t) := Lib.hid decide_eq_true_iff
 have HO : Hid (decide (mayPt d.o) = true ↔ mayPt d.o) := Lib.hid decide_eq_true_iff
 have HNT : Hid (decide (d.t = noPt) = true ↔ d.t = noPt) := Lib.hid decide_eq_true_iff
 have HNO : Hid (decide (d.o = noPt) = true ↔ d.o = noPt) := Lib.hid decide_eq_true_iff
 generalize decide (mayPt d.t) = bt at *
 generalize decide (mayPt d.o) = bo at *
 generalize decide (d.t = noPt) = zt at *
 generalize decide (d.o = noPt) = zo at *
 by_cases g0 : 2 ≤ d.i
 rotate_left 1
 ·have HV : Hid (false = true ↔ mayDl d) := Lib.hid (by rw [HB.out]; constructor; intro h; cases h; rintro ⟨a0, a1, a2, a3, a4, a5, _⟩; exact absurd a0 g0)
  clear HB HMT HMO HZT HZO HT HO HNT HNO HK0
  go_enter Tryz.func93, Tryz.ntmps93
  go_wp2_with fail
  exact HQ.out false _ _ HV.out rfl F0.out
 by_cases g1 : d.i ≤ 128
 rotate_left 1
 ·have HV : Hid (false = true ↔ mayDl d) := Lib.hid (by rw [HB.out]; constructor; intro h; cases h; rintro ⟨a0, a1, a2, a3, a4, a5, _⟩; exact absurd a1 g1)
  clear HB HMT HMO HZT HZO HT HO HNT HNO HK0
  go_enter Tryz.func93, Tryz.ntmps93
  go_wp2_with fail
  exact HQ.out false _ _ HV.out rfl F0.out
 by_cases g2 : 0 ≤ d.b
 rotate_left 1
 ·have HV : Hid (false = true ↔ mayDl d) := Lib.hid (by rw [HB.out]; constructor; intro h; cases h; rintro ⟨a0, a1, a2, a3, a4, a5, _⟩; exact absurd a2 g2)
  clear HB HMT HMO HZT HZO HT HO HNT HNO HK0
  go_enter Tryz.func93, Tryz.ntmps93
  go_wp2_with fail
  exact HQ.out false _ _ HV.out rfl F0.out
 by_cases g3 : d.b < 64
 rotate_left 1
 ·have HV : Hid (false = true ↔ mayDl d) := Lib.hid (by rw [HB.out]; constructor; intro h; cases h; rintro ⟨a0, a1, a2, a3, a4, a5, _⟩; exact absurd a3 g3)
  clear HB HMT HMO HZT HZO HT HO HNT HNO HK0
  go_enter Tryz.func93, Tryz.ntmps93
  go_wp2_with fail
  exact HQ.out false _ _ HV.out rfl F0.out
 by_cases g4 : 0 ≤ d.s
 rotate_left 1
 ·have HV : Hid (false = true ↔ mayDl d) := Lib.hid (by rw [HB.out]; constructor; intro h; cases h; rintro ⟨a0, a1, a2, a3, a4, a5, _⟩; exact absurd a4 g4)
  clear HB HMT HMO HZT HZO HT HO HNT HNO HK0
  go_enter Tryz.func93, Tryz.ntmps93
  go_wp2_with fail
  exact HQ.out false _ _ HV.out rfl F0.out
 by_cases g5 : d.s ≤ 4096
 rotate_left 1
 ·have HV : Hid (false = true ↔ mayDl d) := Lib.hid (by rw [HB.out]; constructor; intro h; cases h; rintro ⟨a0, a1, a2, a3, a4, a5, _⟩; exact absurd a5 g5)
  clear HB HMT HMO HZT HZO HT HO HNT HNO HK0
  go_enter Tryz.func93, Tryz.ntmps93
  go_wp2_with fail
  exact HQ.out false _ _ HV.out rfl F0.out
 rcases Bool.eq_false_or_eq_true bt with hbt | hbt
 rotate_left 1
 ·subst hbt
  have HV : Hid (false = true ↔ mayDl d) := Lib.hid (by rw [HB.out, ← HT.out]; simp)
  go_enter Tryz.func93, Tryz.ntmps93
  go_wp2_with fail
  refine (HMT.out _).mono ?_
  rintro e u ⟨rfl, f_u⟩
  have F_u := Lib.hid (F0.out.trans f_u (fun _ _ e => e))
  have K_u : Hid (DlAt u w.heap.size d) := Lib.hid (DlAt.fr HK0.out f_u)
  obtain ⟨u0, u1, u2, u3, u4, u5, u6, u7, u8, u9, u10, u11, u12, u13⟩ := K_u.out.cells
  go_wp2_with fail
  exact HQ.out false _ _ HV.out rfl F_u.out
 subst hbt
 rcases Bool.eq_false_or_eq_true bo with hbo | hbo
 rotate_left 1
 ·subst hbo
  have HV : Hid (false = true ↔ mayDl d) := Lib.hid (by rw [HB.out, ← HO.out]; simp)
  go_enter Tryz.func93, Tryz.ntmps93
  go_wp2_with fail
  refine (HMT.out _).mono ?_
  rintro e u ⟨rfl, f_u⟩
  have F_u := Lib.hid (F0.out.trans f_u (fun _ _ e => e))
  have K_u : Hid (DlAt u w.heap.size d) := Lib.hid (DlAt.fr HK0.out f_u)
  obtain ⟨u0, u1, u2, u3, u4, u5, u6, u7, u8, u9, u10, u11, u12, u13⟩ := K_u.out.cells
  go_wp2_with fail
  refine (HMO.out _).mono ?_
  rintro e v ⟨rfl, f_v⟩
  have F_v := Lib.hid (F_u.out.trans f_v (fun _ _ e => e))
  have K_v : Hid (DlAt v w.heap.size d) := Lib.hid (DlAt.fr K_u.out f_v)
  obtain ⟨v0, v1, v2, v3, v4, v5, v6, v7, v8, v9, v10, v11, v12, v13⟩ := K_v.out.cells
  go_wp2_with fail
  exact HQ.out false _ _ HV.out rfl F_v.out
 subst hbo
 have HB2 : Hid (mayDl d ↔ ((d.k = 1 ∧ d.o = noPt) ∨ (d.k = 2 ∧ d.o = noPt ∧ d.t = noPt ∧ d.b = 0) ∨ (d.k = 3 ∧ d.s = 0))) := Lib.hid (by rw [HB.out, ← HT.out, ← HO.out]; simp [g0, g1, g2, g3, g4, g5])
 clear HB HT HO
 by_cases hk1 : d.k = 1
 ·have HV : Hid (zo = true ↔ mayDl d) := Lib.hid (by rw [HB2.out, HNO.out]; simp [hk1])
  have HKK := Lib.hid hk1
  clear hk1
  go_enter Tryz.func93, Tryz.ntmps93
  go_wp2_with fail
  refine (HMT.out _).mono ?_
  rintro e u ⟨rfl, f_u⟩
  have F_u := Lib.hid (F0.out.trans f_u (fun _ _ e => e))
  have K_u : Hid (DlAt u w.heap.size d) := Lib.hid (DlAt.fr HK0.out f_u)
  obtain ⟨u0, u1, u2, u3, u4, u5, u6, u7, u8, u9, u10, u11, u12, u13⟩ := K_u.out.cells
  go_wp2_with fail
  refine (HMO.out _).mono ?_
  rintro e v ⟨rfl, f_v⟩
  have F_v := Lib.hid (F_u.out.trans f_v (fun _ _ e => e))
  have K_v : Hid (DlAt v w.heap.size d) := Lib.hid (DlAt.fr K_u.out f_v)
  obtain ⟨v0, v1, v2, v3, v4, v5, v6, v7, v8, v9, v10, v11, v12, v13⟩ := K_v.out.cells
  rw [HKK.out] at v0
  go_wp2_with fail
  refine (HZO.out _).mono ?_
  rintro e x ⟨rfl, f_x⟩
  have F_x := Lib.hid (F_v.out.trans f_x (fun _ _ e => e))
  have K_x : Hid (DlAt x w.heap.size d) := Lib.hid (DlAt.fr K_v.out f_x)
  obtain ⟨x0, x1, x2, x3, x4, x5, x6, x7, x8, x9, x10, x11, x12, x13⟩ := K_x.out.cells
  go_wp2_with fail
  exact HQ.out zo _ _ HV.out rfl F_x.out
 by_cases hk2 : d.k = 2
 ·have HKK := Lib.hid hk2
  clear hk1 hk2
  rcases Bool.eq_false_or_eq_true zo with hzo | hzo
  rotate_left 1
  ·subst hzo
   have HV : Hid (false = true ↔ mayDl d) := Lib.hid (by rw [HB2.out, HKK.out, ← HNO.out]; simp)
   go_enter Tryz.func93, Tryz.ntmps93
   go_wp2_with fail
   refine (HMT.out _).mono ?_
   rintro e u ⟨rfl, f_u⟩
   have F_u := Lib.hid (F0.out.trans f_u (fun _ _ e => e))
   have K_u : Hid (DlAt u w.heap.size d) := Lib.hid (DlAt.fr HK0.out f_u)
   obtain ⟨u0, u1, u2, u3, u4, u5, u6, u7, u8, u9, u10, u11, u12, u13⟩ := K_u.out.cells
   go_wp2_with fail
   refine (HMO.out _).mono ?_
   rintro e v ⟨rfl, f_v⟩
   have F_v := Lib.hid (F_u.out.trans f_v (fun _ _ e => e))
   have K_v : Hid (DlAt v w.heap.size d) := Lib.hid (DlAt.fr K_u.out f_v)
   obtain ⟨v0, v1, v2, v3, v4, v5, v6, v7, v8, v9, v10, v11, v12, v13⟩ := K_v.out.cells
   rw [HKK.out] at v0
   go_wp2_with fail
   refine (HZO.out _).mono ?_
   rintro e x ⟨rfl, f_x⟩
   have F_x := Lib.hid (F_v.out.trans f_x (fun _ _ e => e))
   have K_x : Hid (DlAt x w.heap.size d) := Lib.hid (DlAt.fr K_v.out f_x)
   obtain ⟨x0, x1, x2, x3, x4, x5, x6, x7, x8, x9, x10, x11, x12, x13⟩ := K_x.out.cells
   go_wp2_with fail
   exact HQ.out false _ _ HV.out rfl F_x.out
  subst hzo
  rcases Bool.eq_false_or_eq_true zt with hzt | hzt
  rotate_left 1
  ·subst hzt
   have HV : Hid (false = true ↔ mayDl d) := Lib.hid (by rw [HB2.out, HKK.out, ← HNT.out]; simp)
   go_enter Tryz.func93, Tryz.ntmps93
   go_wp2_with fail
   refine (HMT.out _).mono ?_
   rintro e u ⟨rfl, f_u⟩
   have F_u := Lib.hid (F0.out.trans f_u (fun _ _ e => e))
   have K_u : Hid (DlAt u w.heap.size d) := Lib.hid (DlAt.fr HK0.out f_u)
   obtain ⟨u0, u1, u2, u3, u4, u5, u6, u7, u8, u9, u10, u11, u12, u13⟩ := K_u.out.cells
   go_wp2_with fail
   refine (HMO.out _).mono ?_
   rintro e v ⟨rfl, f_v⟩
   have F_v := Lib.hid (F_u.out.trans f_v (fun _ _ e => e))
   have K_v : Hid (DlAt v w.heap.size d) := Lib.hid (DlAt.fr K_u.out f_v)
   obtain ⟨v0, v1, v2, v3, v4, v5, v6, v7, v8, v9, v10, v11, v12, v13⟩ := K_v.out.cells
   rw [HKK.out] at v0
   go_wp2_with fail
   refine (HZO.out _).mono ?_
   rintro e x ⟨rfl, f_x⟩
   have F_x := Lib.hid (F_v.out.trans f_x (fun _ _ e => e))
   have K_x : Hid (DlAt x w.heap.size d) := Lib.hid (DlAt.fr K_v.out f_x)
   obtain ⟨x0, x1, x2, x3, x4, x5, x6, x7, x8, x9, x10, x11, x12, x13⟩ := K_x.out.cells
   go_wp2_with fail
   refine (HZT.out _).mono ?_
   rintro e y ⟨rfl, f_y⟩
   have F_y := Lib.hid (F_x.out.trans f_y (fun _ _ e => e))
   have K_y : Hid (DlAt y w.heap.size d) := Lib.hid (DlAt.fr K_x.out f_y)
   obtain ⟨y0, y1, y2, y3, y4, y5, y6, y7, y8, y9, y10, y11, y12, y13⟩ := K_y.out.cells
   go_wp2_with fail
   exact HQ.out false _ _ HV.out rfl F_y.out
  subst hzt
  have HV : Hid ((d.b == 0) = true ↔ mayDl d) := Lib.hid (by rw [HB2.out, HKK.out, ← HNO.out, ← HNT.out]; simp)
  generalize hb0 : (d.b == 0) = b0 at *
  go_enter Tryz.func93, Tryz.ntmps93
  go_wp2_with fail
  refine (HMT.out _).mono ?_
  rintro e u ⟨rfl, f_u⟩
  have F_u := Lib.hid (F0.out.trans f_u (fun _ _ e => e))
  have K_u : Hid (DlAt u w.heap.size d) := Lib.hid (DlAt.fr HK0.out f_u)
  obtain ⟨u0, u1, u2, u3, u4, u5, u6, u7, u8, u9, u10, u11, u12, u13⟩ := K_u.out.cells
  go_wp2_with fail
  refine (HMO.out _).mono ?_
  rintro e v ⟨rfl, f_v⟩
  have F_v := Lib.hid (F_u.out.trans f_v (fun _ _ e => e))
  have K_v : Hid (DlAt v w.heap.size d) := Lib.hid (DlAt.fr K_u.out f_v)
  obtain ⟨v0, v1, v2, v3, v4, v5, v6, v7, v8, v9, v10, v11, v12, v13⟩ := K_v.out.cells
  rw [HKK.out] at v0
  go_wp2_with fail
  refine (HZO.out _).mono ?_
  rintro e x ⟨rfl, f_x⟩
  have F_x := Lib.hid (F_v.out.trans f_x (fun _ _ e => e))
  have K_x : Hid (DlAt x w.heap.size d) := Lib.hid (DlAt.fr K_v.out f_x)
  obtain ⟨x0, x1, x2, x3, x4, x5, x6, x7, x8, x9, x10, x11, x12, x13⟩ := K_x.out.cells
  go_wp2_with fail
  refine (HZT.out _).mono ?_
  rintro e y ⟨rfl, f_y⟩
  have F_y := Lib.hid (F_x.out.trans f_y (fun _ _ e => e))
  have K_y : Hid (DlAt y w.heap.size d) := Lib.hid (DlAt.fr K_x.out f_y)
  obtain ⟨y0, y1, y2, y3, y4, y5, y6, y7, y8, y9, y10, y11, y12, y13⟩ := K_y.out.cells
  go_wp2_with fail
  exact HQ.out b0 _ _ HV.out rfl F_y.out
 by_cases hk3 : d.k = 3
 ·have HKK := Lib.hid hk3
  clear hk1 hk2 hk3
  have HV : Hid ((d.s == 0) = true ↔ mayDl d) := Lib.hid (by rw [HB2.out, HKK.out]; simp)
  generalize hb0 : (d.s == 0) = b0 at *
  go_enter Tryz.func93, Tryz.ntmps93
  go_wp2_with fail
  refine (HMT.out _).mono ?_
  rintro e u ⟨rfl, f_u⟩
  have F_u := Lib.hid (F0.out.trans f_u (fun _ _ e => e))
  have K_u : Hid (DlAt u w.heap.size d) := Lib.hid (DlAt.fr HK0.out f_u)
  obtain ⟨u0, u1, u2, u3, u4, u5, u6, u7, u8, u9, u10, u11, u12, u13⟩ := K_u.out.cells
  go_wp2_with fail
  refine (HMO.out _).mono ?_
  rintro e v ⟨rfl, f_v⟩
  have F_v := Lib.hid (F_u.out.trans f_v (fun _ _ e => e))
  have K_v : Hid (DlAt v w.heap.size d) := Lib.hid (DlAt.fr K_u.out f_v)
  obtain ⟨v0, v1, v2, v3, v4, v5, v6, v7, v8, v9, v10, v11, v12, v13⟩ := K_v.out.cells
  rw [HKK.out] at v0
  go_wp2_with fail
  exact HQ.out b0 _ _ HV.out rfl F_v.out
 have HV : Hid (false = true ↔ mayDl d) := Lib.hid (by rw [HB2.out]; simp [hk1, hk2, hk3])
 go_enter Tryz.func93, Tryz.ntmps93
 go_wp2_with fail
 refine (HMT.out _).mono ?_
 rintro e u ⟨rfl, f_u⟩
 have F_u := Lib.hid (F0.out.trans f_u (fun _ _ e => e))
 have K_u : Hid (DlAt u w.heap.size d) := Lib.hid (DlAt.fr HK0.out f_u)
 obtain ⟨u0, u1, u2, u3, u4, u5, u6, u7, u8, u9, u10, u11, u12, u13⟩ := K_u.out.cells
 go_wp2_with fail
 refine (HMO.out _).mono ?_
 rintro e v ⟨rfl, f_v⟩
 have F_v := Lib.hid (F_u.out.trans f_v (fun _ _ e => e))
 have K_v : Hid (DlAt v w.heap.size d) := Lib.hid (DlAt.fr K_u.out f_v)
 obtain ⟨v0, v1, v2, v3, v4, v5, v6, v7, v8, v9, v10, v11, v12, v13⟩ := K_v.out.cells
 go_wp2_with fail
 exact HQ.out false _ _ HV.out rfl F_v.out
end Go.Proofs.YtlcojhddnpmgmaaGreat
