/- The reference's first line and its operation, walked. (Printed by wip/tools/refgen.py.) -/
import Derived.Test.YtkcgijidgppeiaaDoorR4
namespace Go.Proofs.YtkcgijidgppeiaaDoor
open Go.RowKit

/-- three blocks of the call's own, known whole; of what was there nothing has turned. -/
structure Own3 (w0 w : World) (b1 : Nat) (c1 : Array Value) (t1 : TypeId) (b2 : Nat) (c2 : Array Value) (t2 : TypeId) (b3 : Nat) (c3 : Array Value) (t3 : TypeId) : Prop where
  fr : Fr No w0 w
  k1 : w.heap[b1]? = some (.cells c1 t1 (0, 0))
  k2 : w.heap[b2]? = some (.cells c2 t2 (0, 0))
  k3 : w.heap[b3]? = some (.cells c3 t3 (0, 0))
  l1 : w0.heap.size ≤ b1
  l2 : w0.heap.size ≤ b2
  l3 : w0.heap.size ≤ b3
  n12 : b1 ≠ b2
  n13 : b1 ≠ b3
  n23 : b2 ≠ b3

section
variable {w0 w w' : World} {b1 b2 b3 : Nat} {c1 c2 c3 : Array Value} {t1 t2 t3 : TypeId}
theorem Own3.no (h : Own3 w0 w b1 c1 t1 b2 c2 t2 b3 c3 t3) (f : Fr No w w') : Own3 w0 w' b1 c1 t1 b2 c2 t2 b3 c3 t3 :=
  ⟨h.fr.trans f (fun _ _ e => e), f.block_of h.k1 id, f.block_of h.k2 id, f.block_of h.k3 id, h.l1, h.l2, h.l3, h.n12, h.n13, h.n23⟩
theorem Own3.set1 (h : Own3 w0 w b1 c1 t1 b2 c2 t2 b3 c3 t3) (j : Nat) (v : Value) : Own3 w0 (w.setCell ⟨b1, j, none⟩ v) b1 (c1.setIfInBounds j v) t1 b2 c2 t2 b3 c3 t3 :=
  ⟨Fr.setCell (p := ⟨b1, j, none⟩) h.fr (.inr h.l1) v, setCell_at h.k1 j v, setCell_off h.k2 h.n12.symm j v, setCell_off h.k3 h.n13.symm j v, h.l1, h.l2, h.l3, h.n12, h.n13, h.n23⟩
theorem Own3.set2 (h : Own3 w0 w b1 c1 t1 b2 c2 t2 b3 c3 t3) (j : Nat) (v : Value) : Own3 w0 (w.setCell ⟨b2, j, none⟩ v) b1 c1 t1 b2 (c2.setIfInBounds j v) t2 b3 c3 t3 :=
  ⟨Fr.setCell (p := ⟨b2, j, none⟩) h.fr (.inr h.l2) v, setCell_off h.k1 h.n12 j v, setCell_at h.k2 j v, setCell_off h.k3 h.n23.symm j v, h.l1, h.l2, h.l3, h.n12, h.n13, h.n23⟩
theorem Own3.set3 (h : Own3 w0 w b1 c1 t1 b2 c2 t2 b3 c3 t3) (j : Nat) (v : Value) : Own3 w0 (w.setCell ⟨b3, j, none⟩ v) b1 c1 t1 b2 c2 t2 b3 (c3.setIfInBounds j v) t3 :=
  ⟨Fr.setCell (p := ⟨b3, j, none⟩) h.fr (.inr h.l3) v, setCell_off h.k1 h.n13 j v, setCell_off h.k2 h.n23 j v, setCell_at h.k3 j v, h.l1, h.l2, h.l3, h.n12, h.n13, h.n23⟩
theorem Own3.cell1 (h : Own3 w0 w b1 c1 t1 b2 c2 t2 b3 c3 t3) (j : Nat) : w.cell? ⟨b1, j, none⟩ = c1[j]? ∧ w.frozen? ⟨b1, j, none⟩ = false := ⟨cell_at h.k1 j, frozen_at h.k1 j⟩
theorem Own3.cell2 (h : Own3 w0 w b1 c1 t1 b2 c2 t2 b3 c3 t3) (j : Nat) : w.cell? ⟨b2, j, none⟩ = c2[j]? ∧ w.frozen? ⟨b2, j, none⟩ = false := ⟨cell_at h.k2 j, frozen_at h.k2 j⟩
theorem Own3.cell3 (h : Own3 w0 w b1 c1 t1 b2 c2 t2 b3 c3 t3) (j : Nat) : w.cell? ⟨b3, j, none⟩ = c3[j]? ∧ w.frozen? ⟨b3, j, none⟩ = false := ⟨cell_at h.k3 j, frozen_at h.k3 j⟩
end

theorem nV_in (x : ByteArray) : I64 (Scr.nV x) := by
  unfold Scr.nV
  cases h : Scr.numW x.data.toList with
  | none => exact ⟨by decide, by decide⟩
  | some v => exact ((Scr.numW_iff _ _).1 h).1

/-- what the reference's config does. -/
def RCfgPost (ws : List ByteArray) (w : World) (e : Ending) (w' : World) : Prop :=
  ∃ c : Scr.Cfg, (Scr.config1 ws).getD Scr.Cfg.zero = c ∧ e = .returned (.tuple #[.agg #[.int .i64 c.servers, .int .i64 c.clients, .int .i64 c.sectors, .int .i64 c.journal, .int .i64 c.tries], .bool (Scr.config1 ws).isSome]) ∧
    (I64 c.servers ∧ I64 c.clients ∧ I64 c.sectors ∧ I64 c.journal ∧ I64 c.tries) ∧ Fr No w w'

theorem Tryd.size29 : (Tryd.prog.info? 29).map (·.size) = some 5 := by kernel_rfl
theorem results23_ (tmps : Array Value) (w : World) (g : Nat) (cs : Array Value) (fr : Nat × Nat) (v3 : Value) (hp : tmps.getD 2 undef = .pointer (some ⟨g, 0, none⟩)) (h3 : tmps.getD 3 undef = v3)
    (hg : w.heap[g]? = some (.cells cs 29 fr)) (hc : cs.size = 5) : (results Tryd.f23 tmps).run Tryd.prog w = .ok (.tuple #[.agg cs, v3]) w := by
  have hl := run_loadVar_row (P := Tryd.prog) w g 29 29 cs fr _ hg Tryd.underlying29 rfl (by rw [Tryd.size29, hc])
  have h2' : tmps[2]?.getD undef = .pointer (some ⟨g, 0, none⟩) := by simpa using hp
  have h3' : tmps[3]?.getD undef = v3 := by simpa using h3
  simp [results, Tryd.results23, asAddr, h2', h3', hl]

theorem rcfg_no {ws : List ByteArray} {w w' : World} {e : Ending} (h : Scr.config1 ws = none) (he : e = .returned (.tuple #[.agg #[.int .i64 0, .int .i64 0, .int .i64 0, .int .i64 0, .int .i64 0], .bool false])) (f : Fr No w w') : RCfgPost ws w e w' := by
  have z : I64 0 := ⟨by decide, by decide⟩
  exact ⟨Scr.Cfg.zero, by rw [h]; rfl, by rw [h]; exact he, ⟨z, z, z, z, z⟩, f⟩
theorem rcfg_yes {ws : List ByteArray} {c : Scr.Cfg} {w w' : World} {e : Ending} (h : Scr.config1 ws = some c) (he : e = .returned (.tuple #[.agg #[.int .i64 c.servers, .int .i64 c.clients, .int .i64 c.sectors, .int .i64 c.journal, .int .i64 c.tries], .bool true]))
    (hi : I64 c.servers ∧ I64 c.clients ∧ I64 c.sectors ∧ I64 c.journal ∧ I64 c.tries) (f : Fr No w w') : RCfgPost ws w e w' :=
  ⟨c, by rw [h]; rfl, by rw [h]; exact he, hi, f⟩

theorem make5 (w : World) : (Instr.makeSlice 90 (.int .i64 5) (.int .i64 5)).run Tryd.prog w = .ok (.slice (some ⟨w.heap.size, 0, none⟩) 5 5) (w.alloc (.cells #[.bool false, .bool false, .bool false, .bool false, .bool false] 4)) := by kernel_rfl
theorem make8 (w : World) : (Instr.makeSlice 90 (.int .i64 8) (.int .i64 8)).run Tryd.prog w = .ok (.slice (some ⟨w.heap.size, 0, none⟩) 8 8) (w.alloc (.cells #[.bool false, .bool false, .bool false, .bool false, .bool false, .bool false, .bool false, .bool false] 4)) := by kernel_rfl
/-- the words of a line are few and short. -/
theorem words_world (_w : World) (s : ByteArray) (hs : s.size ≤ 1048576) (ws : List ByteArray) (hws : Scr.parts Scr.space s = ws) : ws.length ≤ 1048577 ∧ ∀ x ∈ ws, x.size ≤ 1048576 := by
  subst hws
  refine ⟨by have := parts_le Scr.space s (by decide); omega, fun x hx => Nat.le_trans (splitB_size _ _ _ _ hx) hs⟩


set_option maxRecDepth 100000 in
set_option maxHeartbeats 1600000 in
theorem rconfig_ (s : ByteArray) (w : World) (h8 : 8 ≤ w.heap.size) (hs : s.size ≤ 1048576) : Calls Tryd.prog 23 #[.string s] w (RCfgPost (Scr.parts Scr.space s) w) := by
  have z5 : ∀ (W : World), W.heap[w.heap.size]? = some (.cells #[.int .i64 0, .int .i64 0, .int .i64 0, .int .i64 0, .int .i64 0] 29 (0, 0)) → ∀ j, j < 5 → W.cell? ⟨w.heap.size, j, none⟩ = some (.int .i64 0) ∧ W.frozen? ⟨w.heap.size, j, none⟩ = false := by
    intro W h j hj
    rw [cell_at h, frozen_at h]
    match j, hj with
    | 0, _ => exact ⟨rfl, rfl⟩
    | 1, _ => exact ⟨rfl, rfl⟩
    | 2, _ => exact ⟨rfl, rfl⟩
    | 3, _ => exact ⟨rfl, rfl⟩
    | 4, _ => exact ⟨rfl, rfl⟩
  have Z5 := Lib.hid z5
  clear z5
  go_enter Tryd.func23, Tryd.ntmps23
  go_wp2_with fail
  refine (words_ s _ hs).mono ?_
  rintro e w1 ⟨v, rfl, hown, f1⟩
  have F0 : Fr No w (w.alloc (.cells #[.int .i64 0, .int .i64 0, .int .i64 0, .int .i64 0, .int .i64 0] 29)) := (Fr.refl _).alloc _
  have K1 := f1.block_of (new_at w (.cells #[.int .i64 0, .int .i64 0, .int .i64 0, .int .i64 0, .int .i64 0] 29)) id
  have F1 : Fr No w w1 := F0.trans f1 (fun _ _ e => e)
  have hsz1 : w.heap.size < w1.heap.size := lt_of_block K1
  have I1 := InAt.of_own (base := _) (e := 9) (xs := (Scr.parts Scr.space s).map .string) (by rw [List.length_map]; exact hown)
  obtain ⟨hwl, hwx⟩ := words_world w s hs _ rfl
  clear hown F0 f1
  generalize Scr.parts Scr.space s = ws at *
  obtain ⟨a, c, rfl, hc, hcell⟩ := I1
  rw [List.length_map] at hc ⊢
  have HC := Lib.hid hc
  have HCELL := Lib.hid hcell
  have HWX := Lib.hid hwx
  have HK1 := Lib.hid K1
  clear hc hcell hwx K1
  by_cases h6 : ws.length = 6
  · match ws, h6 with
    | [x0, x1, x2, x3, x4, x5], _ =>
      obtain ⟨b, off, rfl, hb, hcell⟩ : ∃ b off, a = some ⟨b, off, none⟩ ∧ b < w1.heap.size ∧ ∀ j x, ([x0, x1, x2, x3, x4, x5].map Value.string)[j]? = some x → w1.cell? ⟨b, off + j, none⟩ = some x := by
        rcases HCELL.out with h | h
        · simp at h
        · exact h
      have d0 : w1.cell? ⟨b, off, none⟩ = some (.string x0) := hcell 0 _ rfl
      have d1 : w1.cell? ⟨b, off + 1, none⟩ = some (.string x1) := hcell 1 _ rfl
      have d2 : w1.cell? ⟨b, off + 2, none⟩ = some (.string x2) := hcell 2 _ rfl
      have d3 : w1.cell? ⟨b, off + 3, none⟩ = some (.string x3) := hcell 3 _ rfl
      have d4 : w1.cell? ⟨b, off + 4, none⟩ = some (.string x4) := hcell 4 _ rfl
      have d5 : w1.cell? ⟨b, off + 5, none⟩ = some (.string x5) := hcell 5 _ rfl
      clear hcell
      by_cases hx : x0.data.toList = [119, 111, 114, 108, 100]
      · obtain rfl : x0 = ⟨#[119, 111, 114, 108, 100]⟩ := WideShapes.bytes_inj hx
        clear hx
        have hmk := make5
        go_wp2_with fail
        clear hmk
        have O : Own3 w ((w1.alloc (.cells #[.int .i64 0, .int .i64 0, .int .i64 0, .int .i64 0, .int .i64 0] 29)).alloc (.cells #[.bool false, .bool false, .bool false, .bool false, .bool false] 4)) w.heap.size #[.int .i64 0, .int .i64 0, .int .i64 0, .int .i64 0, .int .i64 0] 29 w1.heap.size #[.int .i64 0, .int .i64 0, .int .i64 0, .int .i64 0, .int .i64 0] 29 (w1.heap.size + 1) #[.bool false, .bool false, .bool false, .bool false, .bool false] 4 := by
          have hsz : (w1.alloc (.cells #[.int .i64 0, .int .i64 0, .int .i64 0, .int .i64 0, .int .i64 0] 29)).heap.size = w1.heap.size + 1 := by simp
          refine ⟨(F1.alloc _).alloc _, ((Fr.refl (S := No) w1).alloc _).alloc _ |>.block_of HK1.out id, ?_, ?_, Nat.le_refl _, Nat.le_of_lt hsz1, by omega, by omega, by omega, by omega⟩
          · rw [Below.heap_alloc _ _ _ (by simp)]; exact new_at _ _
          · have := new_at (w1.alloc (.cells #[.int .i64 0, .int .i64 0, .int .i64 0, .int .i64 0, .int .i64 0] 29)) (.cells #[.bool false, .bool false, .bool false, .bool false, .bool false] 4)
            rw [hsz] at this
            exact this
        have W8 : 8 ≤ w1.heap.size := by omega
        have nb1 : b ≠ w1.heap.size := by omega
        have nb2 : b ≠ w1.heap.size + 1 := by omega
        have FB : Fr No w1 ((w1.alloc (.cells #[.int .i64 0, .int .i64 0, .int .i64 0, .int .i64 0, .int .i64 0] 29)).alloc (.cells #[.bool false, .bool false, .bool false, .bool false, .bool false] 4)) := ((Fr.refl (S := No) w1).alloc _).alloc _
        have nb0 : w.heap.size ≠ w1.heap.size := by omega
        have nb3 : w.heap.size ≠ w1.heap.size + 1 := by omega
        have HD1 := Lib.hid d1
        have HD2 := Lib.hid d2
        have HD3 := Lib.hid d3
        have HD4 := Lib.hid d4
        have HD5 := Lib.hid d5
        clear d0 d1 d2 d3 d4 d5
        refine (number_ x1 _ (by have := O.fr.size; omega) (HWX.out x1 (by simp))).mono ?_
        rintro e v0 ⟨rfl, g0⟩
        replace O := O.no g0
        replace FB := FB.trans (T := No) g0 (fun _ _ e => e)
        obtain ⟨c0, z0⟩ := O.cell2 0
        obtain ⟨e0, y0⟩ := O.cell3 0
        simp only [List.getElem?_toArray, List.getElem?_cons_zero] at c0 e0
        have m23 := O.n23
        have d2 := FB.cell (p := ⟨b, off + 2, none⟩) hb id
        rw [HD2.out] at d2
        go_wp2_with fail
        replace O := (O.set2 0 (.int .i64 (Scr.nV x1))).set3 0 (.bool (Scr.nOk x1))
        replace FB : Fr No w1 _ := Fr.setCell (p := ⟨w1.heap.size + 1, 0, none⟩) (Fr.setCell (p := ⟨w1.heap.size, 0, none⟩) FB (.inr (Nat.le_refl _)) (.int .i64 (Scr.nV x1))) (.inr (Nat.le_succ _)) (.bool (Scr.nOk x1))
        clear c0 z0 e0 y0 d2 m23
        refine (number_ x2 _ (by have := O.fr.size; omega) (HWX.out x2 (by simp))).mono ?_
        rintro e v1 ⟨rfl, g1⟩
        replace O := O.no g1
        replace FB := FB.trans (T := No) g1 (fun _ _ e => e)
        obtain ⟨c1, z1⟩ := O.cell2 1
        obtain ⟨e1, y1⟩ := O.cell3 1
        simp only [List.getElem?_toArray, List.getElem?_cons_zero, List.getElem?_cons_succ, List.setIfInBounds_toArray, List.set_cons_zero] at c1 e1
        have m23 := O.n23
        have d3 := FB.cell (p := ⟨b, off + 3, none⟩) hb id
        rw [HD3.out] at d3
        go_wp2_with fail
        replace O := (O.set2 1 (.int .i64 (Scr.nV x2))).set3 1 (.bool (Scr.nOk x2))
        replace FB : Fr No w1 _ := Fr.setCell (p := ⟨w1.heap.size + 1, 1, none⟩) (Fr.setCell (p := ⟨w1.heap.size, 1, none⟩) FB (.inr (Nat.le_refl _)) (.int .i64 (Scr.nV x2))) (.inr (Nat.le_succ _)) (.bool (Scr.nOk x2))
        clear c1 z1 e1 y1 d3 m23
        refine (number_ x3 _ (by have := O.fr.size; omega) (HWX.out x3 (by simp))).mono ?_
        rintro e v2 ⟨rfl, g2⟩
        replace O := O.no g2
        replace FB := FB.trans (T := No) g2 (fun _ _ e => e)
        obtain ⟨c2, z2⟩ := O.cell2 2
        obtain ⟨e2, y2⟩ := O.cell3 2
        simp only [List.getElem?_toArray, List.getElem?_cons_zero, List.getElem?_cons_succ, List.setIfInBounds_toArray, List.set_cons_zero, List.set_cons_succ] at c2 e2
        have m23 := O.n23
        have d4 := FB.cell (p := ⟨b, off + 4, none⟩) hb id
        rw [HD4.out] at d4
        go_wp2_with fail
        replace O := (O.set2 2 (.int .i64 (Scr.nV x3))).set3 2 (.bool (Scr.nOk x3))
        replace FB : Fr No w1 _ := Fr.setCell (p := ⟨w1.heap.size + 1, 2, none⟩) (Fr.setCell (p := ⟨w1.heap.size, 2, none⟩) FB (.inr (Nat.le_refl _)) (.int .i64 (Scr.nV x3))) (.inr (Nat.le_succ _)) (.bool (Scr.nOk x3))
        clear c2 z2 e2 y2 d4 m23
        refine (number_ x4 _ (by have := O.fr.size; omega) (HWX.out x4 (by simp))).mono ?_
        rintro e v3 ⟨rfl, g3⟩
        replace O := O.no g3
        replace FB := FB.trans (T := No) g3 (fun _ _ e => e)
        obtain ⟨c3, z3⟩ := O.cell2 3
        obtain ⟨e3, y3⟩ := O.cell3 3
        simp only [List.getElem?_toArray, List.getElem?_cons_zero, List.getElem?_cons_succ, List.setIfInBounds_toArray, List.set_cons_zero, List.set_cons_succ] at c3 e3
        have m23 := O.n23
        have d5 := FB.cell (p := ⟨b, off + 5, none⟩) hb id
        rw [HD5.out] at d5
        go_wp2_with fail
        replace O := (O.set2 3 (.int .i64 (Scr.nV x4))).set3 3 (.bool (Scr.nOk x4))
        replace FB : Fr No w1 _ := Fr.setCell (p := ⟨w1.heap.size + 1, 3, none⟩) (Fr.setCell (p := ⟨w1.heap.size, 3, none⟩) FB (.inr (Nat.le_refl _)) (.int .i64 (Scr.nV x4))) (.inr (Nat.le_succ _)) (.bool (Scr.nOk x4))
        clear c3 z3 e3 y3 d5 m23
        refine (number_ x5 _ (by have := O.fr.size; omega) (HWX.out x5 (by simp))).mono ?_
        rintro e v4 ⟨rfl, g4⟩
        replace O := O.no g4
        replace FB := FB.trans (T := No) g4 (fun _ _ e => e)
        obtain ⟨c4, z4⟩ := O.cell2 4
        obtain ⟨e4, y4⟩ := O.cell3 4
        simp only [List.getElem?_toArray, List.getElem?_cons_zero, List.getElem?_cons_succ, List.setIfInBounds_toArray, List.set_cons_zero, List.set_cons_succ] at c4 e4
        have m23 := O.n23
        replace FB := FB.os
        have O' := (O.set2 4 (.int .i64 (Scr.nV x5))).set3 4 (.bool (Scr.nOk x5))
        obtain ⟨p0, r0⟩ := O.cell1 0
        obtain ⟨p1, r1⟩ := O.cell1 1
        obtain ⟨p2, r2⟩ := O.cell1 2
        obtain ⟨p3, r3⟩ := O.cell1 3
        obtain ⟨p4, r4⟩ := O.cell1 4
        obtain ⟨q0, _⟩ := O.cell2 0
        obtain ⟨q1, _⟩ := O.cell2 1
        obtain ⟨q2, _⟩ := O.cell2 2
        obtain ⟨q3, _⟩ := O.cell2 3
        obtain ⟨s0, _⟩ := O.cell3 0
        obtain ⟨s1, _⟩ := O.cell3 1
        obtain ⟨s2, _⟩ := O.cell3 2
        obtain ⟨s3, _⟩ := O.cell3 3
        simp only [List.getElem?_toArray, List.getElem?_cons_zero, List.getElem?_cons_succ, List.setIfInBounds_toArray, List.set_cons_zero, List.set_cons_succ] at p0 p1 p2 p3 p4 q0 q1 q2 q3 s0 s1 s2 s3
        have m12 := O.n12
        have m13 := O.n13
        obtain ⟨o1, ho1⟩ : ∃ o, Scr.nOk x1 = o := ⟨_, rfl⟩
        obtain ⟨o2, ho2⟩ : ∃ o, Scr.nOk x2 = o := ⟨_, rfl⟩
        obtain ⟨o3, ho3⟩ : ∃ o, Scr.nOk x3 = o := ⟨_, rfl⟩
        obtain ⟨o4, ho4⟩ : ∃ o, Scr.nOk x4 = o := ⟨_, rfl⟩
        obtain ⟨o5, ho5⟩ : ∃ o, Scr.nOk x5 = o := ⟨_, rfl⟩
        have hc1 : Scr.config1 [⟨#[119, 111, 114, 108, 100]⟩, x1, x2, x3, x4, x5] = if o1 && o2 && o3 && o4 && o5 then some ⟨Scr.nV x1, Scr.nV x2, Scr.nV x3, Scr.nV x4, Scr.nV x5⟩ else none := by rw [Scr.config1_six, ho1, ho2, ho3, ho4, ho5]; rfl
        have HC1 := Lib.hid hc1
        clear hc1 O
        rw [ho1] at s0 O'
        rw [ho2] at s1 O'
        rw [ho3] at s2 O'
        rw [ho4] at s3 O'
        rw [ho5] at O' ⊢
        have HO' := Lib.hid O'
        clear ho1 ho2 ho3 ho4 ho5 O'
        cases o1
        · go_wp2_with fail
          exact bodyPost_ret (results23_ _ _ w.heap.size #[.int .i64 0, .int .i64 0, .int .i64 0, .int .i64 0, .int .i64 0] (0, 0) (.bool false) rfl rfl ((((((HO'.out.set1 0 (.int .i64 0)).set1 1 (.int .i64 0)).set1 2 (.int .i64 0)).set1 3 (.int .i64 0)).set1 4 (.int .i64 0))).k1 rfl) rfl (rcfg_no (by rw [HC1.out]; rfl) rfl ((((((HO'.out.set1 0 (.int .i64 0)).set1 1 (.int .i64 0)).set1 2 (.int .i64 0)).set1 3 (.int .i64 0)).set1 4 (.int .i64 0))).fr)
        cases o2
        · go_wp2_with fail
          exact bodyPost_ret (results23_ _ _ w.heap.size #[.int .i64 0, .int .i64 0, .int .i64 0, .int .i64 0, .int .i64 0] (0, 0) (.bool false) rfl rfl ((((((HO'.out.set1 0 (.int .i64 0)).set1 1 (.int .i64 0)).set1 2 (.int .i64 0)).set1 3 (.int .i64 0)).set1 4 (.int .i64 0))).k1 rfl) rfl (rcfg_no (by rw [HC1.out]; rfl) rfl ((((((HO'.out.set1 0 (.int .i64 0)).set1 1 (.int .i64 0)).set1 2 (.int .i64 0)).set1 3 (.int .i64 0)).set1 4 (.int .i64 0))).fr)
        cases o3
        · go_wp2_with fail
          exact bodyPost_ret (results23_ _ _ w.heap.size #[.int .i64 0, .int .i64 0, .int .i64 0, .int .i64 0, .int .i64 0] (0, 0) (.bool false) rfl rfl ((((((HO'.out.set1 0 (.int .i64 0)).set1 1 (.int .i64 0)).set1 2 (.int .i64 0)).set1 3 (.int .i64 0)).set1 4 (.int .i64 0))).k1 rfl) rfl (rcfg_no (by rw [HC1.out]; rfl) rfl ((((((HO'.out.set1 0 (.int .i64 0)).set1 1 (.int .i64 0)).set1 2 (.int .i64 0)).set1 3 (.int .i64 0)).set1 4 (.int .i64 0))).fr)
        cases o4
        · go_wp2_with fail
          exact bodyPost_ret (results23_ _ _ w.heap.size #[.int .i64 0, .int .i64 0, .int .i64 0, .int .i64 0, .int .i64 0] (0, 0) (.bool false) rfl rfl ((((((HO'.out.set1 0 (.int .i64 0)).set1 1 (.int .i64 0)).set1 2 (.int .i64 0)).set1 3 (.int .i64 0)).set1 4 (.int .i64 0))).k1 rfl) rfl (rcfg_no (by rw [HC1.out]; rfl) rfl ((((((HO'.out.set1 0 (.int .i64 0)).set1 1 (.int .i64 0)).set1 2 (.int .i64 0)).set1 3 (.int .i64 0)).set1 4 (.int .i64 0))).fr)
        cases o5
        · go_wp2_with fail
          exact bodyPost_ret (results23_ _ _ w.heap.size #[.int .i64 0, .int .i64 0, .int .i64 0, .int .i64 0, .int .i64 0] (0, 0) (.bool false) rfl rfl ((((((HO'.out.set1 0 (.int .i64 0)).set1 1 (.int .i64 0)).set1 2 (.int .i64 0)).set1 3 (.int .i64 0)).set1 4 (.int .i64 0))).k1 rfl) rfl (rcfg_no (by rw [HC1.out]; rfl) rfl ((((((HO'.out.set1 0 (.int .i64 0)).set1 1 (.int .i64 0)).set1 2 (.int .i64 0)).set1 3 (.int .i64 0)).set1 4 (.int .i64 0))).fr)
        go_wp2_with fail
        exact bodyPost_ret (results23_ _ _ w.heap.size #[.int .i64 (Scr.nV x1), .int .i64 (Scr.nV x2), .int .i64 (Scr.nV x3), .int .i64 (Scr.nV x4), .int .i64 (Scr.nV x5)] (0, 0) (.bool true) rfl rfl ((((((HO'.out.set1 0 (.int .i64 (Scr.nV x1))).set1 1 (.int .i64 (Scr.nV x2))).set1 2 (.int .i64 (Scr.nV x3))).set1 3 (.int .i64 (Scr.nV x4))).set1 4 (.int .i64 (Scr.nV x5)))).k1 rfl) rfl (rcfg_yes (by rw [HC1.out]; rfl) rfl ⟨nV_in _, nV_in _, nV_in _, nV_in _, nV_in _⟩ ((((((HO'.out.set1 0 (.int .i64 (Scr.nV x1))).set1 1 (.int .i64 (Scr.nV x2))).set1 2 (.int .i64 (Scr.nV x3))).set1 3 (.int .i64 (Scr.nV x4))).set1 4 (.int .i64 (Scr.nV x5)))).fr)
      · have ht : (x0.toList == [119, 111, 114, 108, 100]) = false := by rw [ByteArray.toList_eq]; simpa using hx
        have ht2 : (x0.toList != [119, 111, 114, 108, 100]) = true := by unfold bne; rw [ht]; rfl
        have HN := Lib.hid (Scr.config1_word (r := [x1, x2, x3, x4, x5]) hx)
        have hz := Z5.out w1 HK1.out
        obtain ⟨p0, r0⟩ := hz 0 (by decide)
        obtain ⟨p1, r1⟩ := hz 1 (by decide)
        obtain ⟨p2, r2⟩ := hz 2 (by decide)
        obtain ⟨p3, r3⟩ := hz 3 (by decide)
        obtain ⟨p4, r4⟩ := hz 4 (by decide)
        clear hx hz
        go_wp2_with fail
        exact bodyPost_ret (results23_ _ _ w.heap.size #[.int .i64 0, .int .i64 0, .int .i64 0, .int .i64 0, .int .i64 0] (0, 0) (.bool false) rfl rfl (row5 _ _ _ _ _ _ _ _ _ _ HK1.out) rfl) rfl (rcfg_no HN.out rfl (row5_fr _ _ _ _ _ F1 (.inr (Nat.le_refl _))))
  · have q6 : ((ws.length : Int) != 6) = true := by rw [bne_iff_ne]; omega
    have HN := Lib.hid (Scr.config1_len h6)
    have hz := Z5.out w1 HK1.out
    obtain ⟨p0, r0⟩ := hz 0 (by decide)
    obtain ⟨p1, r1⟩ := hz 1 (by decide)
    obtain ⟨p2, r2⟩ := hz 2 (by decide)
    obtain ⟨p3, r3⟩ := hz 3 (by decide)
    obtain ⟨p4, r4⟩ := hz 4 (by decide)
    clear h6 hz
    go_wp2_with fail
    exact bodyPost_ret (results23_ _ _ w.heap.size #[.int .i64 0, .int .i64 0, .int .i64 0, .int .i64 0, .int .i64 0] (0, 0) (.bool false) rfl rfl (row5 _ _ _ _ _ _ _ _ _ _ HK1.out) rfl) rfl (rcfg_no HN.out rfl (row5_fr _ _ _ _ _ F1 (.inr (Nat.le_refl _))))
end Go.Proofs.YtkcgijidgppeiaaDoor
