/- The reference's operation, walked. (Printed by wip/tools/refgen2.py.) -/
import Derived.Test.YtkcgijidgppeiaaDoorR5
namespace Go.Proofs.YtkcgijidgppeiaaDoor
open Go.RowKit

def ROpPost (ws : List ByteArray) (w : World) (e : Ending) (w' : World) : Prop :=
  ∃ (o : Scr.OpS) (vs : List Value), (Scr.op1 ws).getD Scr.OpS.zero = o ∧ e = .returned (.tuple #[.agg vs.toArray, .bool (Scr.op1 ws).isSome]) ∧ OpV w' o vs ∧ NewVs w.heap.size vs ∧ Fr No w w'

theorem results46_ (tmps : Array Value) (w : World) (g : Nat) (cs : Array Value) (fr : Nat × Nat) (v3 : Value) (hp : tmps.getD 2 undef = .pointer (some ⟨g, 0, none⟩)) (h3 : tmps.getD 3 undef = v3)
    (hg : w.heap[g]? = some (.cells cs 45 fr)) (hc : cs.size = 8) : (results Tryd.f46 tmps).run Tryd.prog w = .ok (.tuple #[.agg cs, v3]) w := by
  have hl := run_loadVar_row (P := Tryd.prog) w g 45 45 cs fr _ hg Tryd.underlying45 rfl (by rw [Tryd.size45, hc])
  have h2' : tmps[2]?.getD undef = .pointer (some ⟨g, 0, none⟩) := by simpa using hp
  have h3' : tmps[3]?.getD undef = v3 := by simpa using h3
  simp [results, Tryd.results46, asAddr, h2', h3', hl]

theorem rop_no {ws : List ByteArray} {w w' : World} {e : Ending} (h : Scr.op1 ws = none) (he : e = .returned (.tuple #[.agg #[.int .i64 0, .string ⟨#[]⟩, .string ⟨#[]⟩, .int .i64 0, .int .i64 0, .int .i64 0, .bool false, .slice none 0 0], .bool false])) (f : Fr No w w') : ROpPost ws w e w' :=
  ⟨Scr.OpS.zero, _, by rw [h]; rfl, by rw [h]; exact he, OpV.zero w', (fun a l c hm => by simp at hm), f⟩
theorem rop_yes {ws : List ByteArray} {o : Scr.OpS} {vs : List Value} {w w' : World} {e : Ending} (h : Scr.op1 ws = some o) (he : e = .returned (.tuple #[.agg vs.toArray, .bool true])) (hv : OpV w' o vs) (hn : NewVs w.heap.size vs) (f : Fr No w w') : ROpPost ws w e w' :=
  ⟨o, vs, by rw [h]; rfl, by rw [h]; exact he, hv, hn, f⟩

namespace Scr
theorem op1_all (a b c d e f g h : ByteArray) (oks : List Bool) (ho : oks = [nOk a, bOk b, bOk c, nOk d, nOk e, nOk f, fOk g, bOk h]) : op1 [a, b, c, d, e, f, g, h] =
    if oks.all id then some ⟨nV a, bV b, bV c, nV d, nV e, nV f, fV g, bV h⟩ else none := by
  rw [op1_eight, ho]
  simp only [List.all_cons, List.all_nil, id, Bool.and_true, Bool.and_assoc]
theorem all_no {oks : List Bool} {j : Nat} (hj : j < oks.length) (h : oks.getD j false = false) : oks.all id = false := by
  rw [List.all_eq_false]
  refine ⟨oks[j], List.getElem_mem hj, ?_⟩
  rw [List.getD_eq_getElem?_getD, List.getElem?_eq_getElem hj] at h
  simpa using h
theorem all_yes {oks : List Bool} (h : ∀ k, k < oks.length → oks.getD k false = true) : oks.all id = true := by
  rw [List.all_eq_true]
  intro x hx
  obtain ⟨j, hj, rfl⟩ := List.getElem_of_mem hx
  have := h j hj
  rw [List.getD_eq_getElem?_getD, List.getElem?_eq_getElem hj] at this
  simpa using this
end Scr
theorem cell_oks {w : World} {b : Nat} {cs : Array Value} {t : TypeId} {fz : Nat × Nat} (h : w.heap[b]? = some (.cells cs t fz)) (oks : List Bool) (ho : cs = (oks.map Value.bool).toArray) (j : Nat) (hj : j < oks.length) : w.cell? ⟨b, j, none⟩ = some (.bool (oks.getD j false)) := by
  rw [cell_at h, ho]
  simp [List.getElem?_eq_getElem hj]
theorem raw_new {w : World} {v : Value} (h : NewSl w v) {b : Nat} (hb : b < w.heap.size) : ∀ a l c, v = .slice (some a) l c → b < a.block := fun a l c e => Nat.lt_of_lt_of_le hb (h a l c e)

set_option maxRecDepth 100000 in
set_option maxHeartbeats 4000000 in
theorem roperation_ (x0 x1 x2 x3 x4 x5 x6 x7 : ByteArray) (b off c : Nat) (w : World) (h8 : 8 ≤ w.heap.size) (_hc : 8 ≤ c) (hsz : ∀ x ∈ ([x0, x1, x2, x3, x4, x5, x6, x7] : List ByteArray), x.size ≤ 1048576) (hb : b < w.heap.size)
    (hd0 : w.cell? ⟨b, off, none⟩ = some (.string x0)) (hd1 : w.cell? ⟨b, off + 1, none⟩ = some (.string x1)) (hd2 : w.cell? ⟨b, off + 2, none⟩ = some (.string x2)) (hd3 : w.cell? ⟨b, off + 3, none⟩ = some (.string x3)) (hd4 : w.cell? ⟨b, off + 4, none⟩ = some (.string x4)) (hd5 : w.cell? ⟨b, off + 5, none⟩ = some (.string x5)) (hd6 : w.cell? ⟨b, off + 6, none⟩ = some (.string x6)) (hd7 : w.cell? ⟨b, off + 7, none⟩ = some (.string x7)) :
    Calls Tryd.prog 46 #[.slice (some ⟨b, off, none⟩) 8 c] w (ROpPost [x0, x1, x2, x3, x4, x5, x6, x7] w) := by
  have S0 := Lib.hid (hsz x0 (by simp))
  have HD0 := Lib.hid hd0
  have S1 := Lib.hid (hsz x1 (by simp))
  have HD1 := Lib.hid hd1
  have S2 := Lib.hid (hsz x2 (by simp))
  have HD2 := Lib.hid hd2
  have S3 := Lib.hid (hsz x3 (by simp))
  have HD3 := Lib.hid hd3
  have S4 := Lib.hid (hsz x4 (by simp))
  have HD4 := Lib.hid hd4
  have S5 := Lib.hid (hsz x5 (by simp))
  have HD5 := Lib.hid hd5
  have S6 := Lib.hid (hsz x6 (by simp))
  have HD6 := Lib.hid hd6
  have S7 := Lib.hid (hsz x7 (by simp))
  have HD7 := Lib.hid hd7
  clear hsz hd0 hd1 hd2 hd3 hd4 hd5 hd6 hd7
  have O : Own3 w (((w.alloc (.cells #[.int .i64 0, .string ⟨#[]⟩, .string ⟨#[]⟩, .int .i64 0, .int .i64 0, .int .i64 0, .bool false, .slice none 0 0] 45)).alloc (.cells #[.int .i64 0, .string ⟨#[]⟩, .string ⟨#[]⟩, .int .i64 0, .int .i64 0, .int .i64 0, .bool false, .slice none 0 0] 45)).alloc (.cells #[.bool false, .bool false, .bool false, .bool false, .bool false, .bool false, .bool false, .bool false] 4)) w.heap.size #[.int .i64 0, .string ⟨#[]⟩, .string ⟨#[]⟩, .int .i64 0, .int .i64 0, .int .i64 0, .bool false, .slice none 0 0] 45 (w.heap.size + 1) #[.int .i64 0, .string ⟨#[]⟩, .string ⟨#[]⟩, .int .i64 0, .int .i64 0, .int .i64 0, .bool false, .slice none 0 0] 45 (w.heap.size + 1 + 1) #[.bool false, .bool false, .bool false, .bool false, .bool false, .bool false, .bool false, .bool false] 4 := by
    have s1 : (w.alloc (.cells #[.int .i64 0, .string ⟨#[]⟩, .string ⟨#[]⟩, .int .i64 0, .int .i64 0, .int .i64 0, .bool false, .slice none 0 0] 45)).heap.size = w.heap.size + 1 := by simp
    have s2 : ((w.alloc (.cells #[.int .i64 0, .string ⟨#[]⟩, .string ⟨#[]⟩, .int .i64 0, .int .i64 0, .int .i64 0, .bool false, .slice none 0 0] 45)).alloc (.cells #[.int .i64 0, .string ⟨#[]⟩, .string ⟨#[]⟩, .int .i64 0, .int .i64 0, .int .i64 0, .bool false, .slice none 0 0] 45)).heap.size = w.heap.size + 1 + 1 := by simp
    refine ⟨(((Fr.refl w).alloc _).alloc _).alloc _, ?_, ?_, ?_, Nat.le_refl _, by omega, by omega, by omega, by omega, by omega⟩
    · rw [Below.heap_alloc _ _ _ (by simp; omega), Below.heap_alloc _ _ _ (by simp)]; exact new_at _ _
    · rw [Below.heap_alloc _ _ _ (by simp)]
      have := new_at (w.alloc (.cells #[.int .i64 0, .string ⟨#[]⟩, .string ⟨#[]⟩, .int .i64 0, .int .i64 0, .int .i64 0, .bool false, .slice none 0 0] 45)) (.cells #[.int .i64 0, .string ⟨#[]⟩, .string ⟨#[]⟩, .int .i64 0, .int .i64 0, .int .i64 0, .bool false, .slice none 0 0] 45)
      rw [s1] at this
      exact this
    · have := new_at ((w.alloc (.cells #[.int .i64 0, .string ⟨#[]⟩, .string ⟨#[]⟩, .int .i64 0, .int .i64 0, .int .i64 0, .bool false, .slice none 0 0] 45)).alloc (.cells #[.int .i64 0, .string ⟨#[]⟩, .string ⟨#[]⟩, .int .i64 0, .int .i64 0, .int .i64 0, .bool false, .slice none 0 0] 45)) (.cells #[.bool false, .bool false, .bool false, .bool false, .bool false, .bool false, .bool false, .bool false] 4)
      rw [s2] at this
      exact this
  have LB : w.heap.size + 1 + 1 < (((w.alloc (.cells #[.int .i64 0, .string ⟨#[]⟩, .string ⟨#[]⟩, .int .i64 0, .int .i64 0, .int .i64 0, .bool false, .slice none 0 0] 45)).alloc (.cells #[.int .i64 0, .string ⟨#[]⟩, .string ⟨#[]⟩, .int .i64 0, .int .i64 0, .int .i64 0, .bool false, .slice none 0 0] 45)).alloc (.cells #[.bool false, .bool false, .bool false, .bool false, .bool false, .bool false, .bool false, .bool false] 4)).heap.size := by simp
  have hmk := make8
  have d0 := O.fr.cell (p := ⟨b, off, none⟩) hb id
  rw [HD0.out] at d0
  go_enter Tryd.func46, Tryd.ntmps46
  go_wp2_with fail
  clear hmk d0
  refine (number_ x0 _ (by have := O.fr.size; omega) S0.out).mono ?_
  rintro e v0 ⟨rfl, g0⟩
  replace O := O.no g0
  replace LB := Nat.lt_of_lt_of_le LB g0.size
  have m23 := O.n23
  obtain ⟨c0, z0⟩ := O.cell2 0
  obtain ⟨e0, y0⟩ := O.cell3 0
  simp only [List.getElem?_toArray, List.getElem?_cons_zero] at c0 e0
  have d1 := O.fr.cell (p := ⟨b, off + 1, none⟩) hb id
  rw [HD1.out] at d1
  go_wp2_with fail
  replace O := (O.set2 0 (.int .i64 (Scr.nV x0))).set3 0 (.bool (Scr.nOk x0))
  replace LB : w.heap.size + 1 + 1 < ((v0.setCell ⟨w.heap.size + 1, 0, none⟩ (.int .i64 (Scr.nV x0))).setCell ⟨w.heap.size + 1 + 1, 0, none⟩ (.bool (Scr.nOk x0))).heap.size := by simpa [World.setCell] using LB
  clear c0 z0 e0 y0 d1 m23
  have w8 : 8 ≤ _ := Nat.le_trans h8 O.fr.size
  refine (raw_ x1 _ w8 S1.out).mono ?_
  rintro e v1 ⟨t1, rfl, hs1, hn1, g1, hl1⟩
  obtain ⟨sa1, sl1, sc1, rfl⟩ := hs1.shape
  have HN1 := Lib.hid (raw_new hn1 LB)
  have HL1 := Lib.hid hl1
  replace O := O.no g1
  replace LB := Nat.lt_of_lt_of_le LB g1.size
  clear hn1 hl1 w8
  have d2 := O.fr.cell (p := ⟨b, off + 2, none⟩) hb id
  rw [HD2.out] at d2
  have HS1 := Lib.hid hs1
  clear hs1
  go_wp2_with fail
  clear d2
  have w8 : 8 ≤ _ := Nat.le_trans h8 O.fr.size
  refine (raw_ x2 _ w8 S2.out).mono ?_
  rintro e v2 ⟨t2, rfl, hs2, hn2, g2, hl2⟩
  obtain ⟨sa2, sl2, sc2, rfl⟩ := hs2.shape
  have HN2 := Lib.hid (raw_new hn2 LB)
  have HL2 := Lib.hid hl2
  replace O := O.no g2
  replace LB := Nat.lt_of_lt_of_le LB g2.size
  clear hn2 hl2 w8
  replace HS1 := Lib.hid (SlAt.fr HS1.out g2 (fun _ _ _ _ e => e))
  have lt1 : ∀ a l c, Value.slice sa1 sl1 sc1 = .slice (some a) l c → w.heap.size + 1 < a.block := fun a l c h => by have := HN1.out a l c h; omega
  have lt2 : ∀ a l c, Value.slice sa2 sl2 sc2 = .slice (some a) l c → w.heap.size + 1 < a.block := fun a l c h => by have := HN2.out a l c h; omega
  have hq1 : SlAt ((v2.setCell ⟨w.heap.size + 1 + 1, 1, none⟩ (.bool (Scr.bOk x1))).setCell ⟨w.heap.size + 1 + 1, 2, none⟩ (.bool (Scr.bOk x2))) (.slice sa1 sl1 sc1) (Scr.bV x1) := SlAt.set (SlAt.set HS1.out HN1.out 1 _) HN1.out 2 _
  have hq2 : SlAt (((v2.setCell ⟨w.heap.size + 1 + 1, 1, none⟩ (.bool (Scr.bOk x1))).setCell ⟨w.heap.size + 1 + 1, 2, none⟩ (.bool (Scr.bOk x2))).setCell ⟨w.heap.size + 1, 1, none⟩ (.string ⟨(Scr.bV x1).toArray⟩)) (.slice sa2 sl2 sc2) (Scr.bV x2) := SlAt.set (SlAt.set (SlAt.set hs2 HN2.out 1 _) HN2.out 2 _) lt2 1 _
  have hcv1 := run_convert_sl _ _ _ hq1
  have hcv2 := run_convert_sl _ _ _ hq2
  clear hq1 hq2 lt1 lt2 hs2
  have m23 := O.n23
  obtain ⟨e1, y1⟩ := O.cell3 1
  obtain ⟨e2, y2⟩ := O.cell3 2
  obtain ⟨c1, z1⟩ := O.cell2 1
  obtain ⟨c2, z2⟩ := O.cell2 2
  simp only [List.getElem?_toArray, List.getElem?_cons_zero, List.getElem?_cons_succ, List.setIfInBounds_toArray, List.set_cons_zero] at e1 e2 c1 c2
  have d3 := O.fr.cell (p := ⟨b, off + 3, none⟩) hb id
  rw [HD3.out] at d3
  have nb1 : b ≠ w.heap.size + 1 := by omega
  have nb2 : b ≠ w.heap.size + 1 + 1 := by omega
  go_wp2_with fail
  replace O := (((O.set3 1 (.bool (Scr.bOk x1))).set3 2 (.bool (Scr.bOk x2))).set2 1 (.string ⟨(Scr.bV x1).toArray⟩)).set2 2 (.string ⟨(Scr.bV x2).toArray⟩)
  replace LB : w.heap.size + 1 + 1 < ((((v2.setCell ⟨w.heap.size + 1 + 1, 1, none⟩ (.bool (Scr.bOk x1))).setCell ⟨w.heap.size + 1 + 1, 2, none⟩ (.bool (Scr.bOk x2))).setCell ⟨w.heap.size + 1, 1, none⟩ (.string ⟨(Scr.bV x1).toArray⟩)).setCell ⟨w.heap.size + 1, 2, none⟩ (.string ⟨(Scr.bV x2).toArray⟩)).heap.size := by simpa [World.setCell] using LB
  clear e1 y1 e2 y2 c1 z1 c2 z2 hcv1 hcv2 d3 m23
  refine (number_ x3 _ (by have := O.fr.size; omega) S3.out).mono ?_
  rintro e v3 ⟨rfl, g3⟩
  replace O := O.no g3
  replace LB := Nat.lt_of_lt_of_le LB g3.size
  have m23 := O.n23
  obtain ⟨c3, z3⟩ := O.cell2 3
  obtain ⟨e3, y3⟩ := O.cell3 3
  simp only [List.getElem?_toArray, List.getElem?_cons_zero, List.getElem?_cons_succ, List.setIfInBounds_toArray, List.set_cons_zero, List.set_cons_succ] at c3 e3
  have d4 := O.fr.cell (p := ⟨b, off + 4, none⟩) hb id
  rw [HD4.out] at d4
  go_wp2_with fail
  replace O := (O.set2 3 (.int .i64 (Scr.nV x3))).set3 3 (.bool (Scr.nOk x3))
  replace LB : w.heap.size + 1 + 1 < ((v3.setCell ⟨w.heap.size + 1, 3, none⟩ (.int .i64 (Scr.nV x3))).setCell ⟨w.heap.size + 1 + 1, 3, none⟩ (.bool (Scr.nOk x3))).heap.size := by simpa [World.setCell] using LB
  clear c3 z3 e3 y3 d4 m23
  refine (number_ x4 _ (by have := O.fr.size; omega) S4.out).mono ?_
  rintro e v4 ⟨rfl, g4⟩
  replace O := O.no g4
  replace LB := Nat.lt_of_lt_of_le LB g4.size
  have m23 := O.n23
  obtain ⟨c4, z4⟩ := O.cell2 4
  obtain ⟨e4, y4⟩ := O.cell3 4
  simp only [List.getElem?_toArray, List.getElem?_cons_zero, List.getElem?_cons_succ, List.setIfInBounds_toArray, List.set_cons_zero, List.set_cons_succ] at c4 e4
  have d5 := O.fr.cell (p := ⟨b, off + 5, none⟩) hb id
  rw [HD5.out] at d5
  go_wp2_with fail
  replace O := (O.set2 4 (.int .i64 (Scr.nV x4))).set3 4 (.bool (Scr.nOk x4))
  replace LB : w.heap.size + 1 + 1 < ((v4.setCell ⟨w.heap.size + 1, 4, none⟩ (.int .i64 (Scr.nV x4))).setCell ⟨w.heap.size + 1 + 1, 4, none⟩ (.bool (Scr.nOk x4))).heap.size := by simpa [World.setCell] using LB
  clear c4 z4 e4 y4 d5 m23
  refine (number_ x5 _ (by have := O.fr.size; omega) S5.out).mono ?_
  rintro e v5 ⟨rfl, g5⟩
  replace O := O.no g5
  replace LB := Nat.lt_of_lt_of_le LB g5.size
  have m23 := O.n23
  obtain ⟨c5, z5⟩ := O.cell2 5
  obtain ⟨e5, y5⟩ := O.cell3 5
  simp only [List.getElem?_toArray, List.getElem?_cons_zero, List.getElem?_cons_succ, List.setIfInBounds_toArray, List.set_cons_zero, List.set_cons_succ] at c5 e5
  obtain ⟨c6, z6⟩ := O.cell2 6
  obtain ⟨e6, y6⟩ := O.cell3 6
  simp only [List.getElem?_toArray, List.getElem?_cons_zero, List.getElem?_cons_succ, List.setIfInBounds_toArray, List.set_cons_zero, List.set_cons_succ] at c6 e6
  have d6 := O.fr.cell (p := ⟨b, off + 6, none⟩) hb id
  rw [HD6.out] at d6
  have d7 := O.fr.cell (p := ⟨b, off + 7, none⟩) hb id
  rw [HD7.out] at d7
  by_cases h60 : x6.data.toList = [48]
  · obtain rfl : x6 = ⟨#[48]⟩ := WideShapes.bytes_inj h60
    clear h60
    go_wp2_with fail
    replace O := (((O.set2 5 (.int .i64 (Scr.nV x5))).set3 5 (.bool (Scr.nOk x5))).set2 6 (.bool false)).set3 6 (.bool true)
    replace LB : w.heap.size + 1 + 1 < ((((v5.setCell ⟨w.heap.size + 1, 5, none⟩ (.int .i64 (Scr.nV x5))).setCell ⟨w.heap.size + 1 + 1, 5, none⟩ (.bool (Scr.nOk x5))).setCell ⟨w.heap.size + 1, 6, none⟩ (.bool false)).setCell ⟨w.heap.size + 1 + 1, 6, none⟩ (.bool true)).heap.size := by simpa [World.setCell] using LB
    clear c5 z5 e5 y5 c6 z6 e6 y6 d6 d7 m23
    have w8 : 8 ≤ _ := Nat.le_trans h8 O.fr.size
    refine (raw_ x7 _ w8 S7.out).mono ?_
    rintro e v7 ⟨t7, rfl, hs7, hn7, g7, hl7⟩
    obtain ⟨sa7, sl7, sc7, rfl⟩ := hs7.shape
    have HN7 := Lib.hid (raw_new hn7 LB)
    have HL7 := Lib.hid hl7
    replace O := O.no g7
    replace LB := Nat.lt_of_lt_of_le LB g7.size
    clear hn7 hl7 w8
    have m23 := O.n23
    have m12 := O.n12
    have m13 := O.n13
    obtain ⟨p0, r0⟩ := O.cell1 0
    obtain ⟨p1, r1⟩ := O.cell1 1
    obtain ⟨p2, r2⟩ := O.cell1 2
    obtain ⟨p3, r3⟩ := O.cell1 3
    obtain ⟨p4, r4⟩ := O.cell1 4
    obtain ⟨p5, r5⟩ := O.cell1 5
    obtain ⟨p6, r6⟩ := O.cell1 6
    obtain ⟨p7, r7⟩ := O.cell1 7
    obtain ⟨c0, z0⟩ := O.cell2 0
    obtain ⟨c1, z1⟩ := O.cell2 1
    obtain ⟨c2, z2⟩ := O.cell2 2
    obtain ⟨c3, z3⟩ := O.cell2 3
    obtain ⟨c4, z4⟩ := O.cell2 4
    obtain ⟨c5, z5⟩ := O.cell2 5
    obtain ⟨c6, z6⟩ := O.cell2 6
    obtain ⟨c7, z7⟩ := O.cell2 7
    obtain ⟨e7, y7⟩ := O.cell3 7
    simp only [List.getElem?_toArray, List.getElem?_cons_zero, List.getElem?_cons_succ, List.setIfInBounds_toArray, List.set_cons_zero, List.set_cons_succ] at p0 p1 p2 p3 p4 p5 p6 p7 c0 c1 c2 c3 c4 c5 c6 c7 e7
    have O7 := (O.set2 7 (.slice sa7 sl7 sc7)).set3 7 (.bool (Scr.bOk x7))
    have HS7 : Hid (SlAt ((v7.setCell ⟨w.heap.size + 1, 7, none⟩ (.slice sa7 sl7 sc7)).setCell ⟨w.heap.size + 1 + 1, 7, none⟩ (.bool (Scr.bOk x7))) (.slice sa7 sl7 sc7) (Scr.bV x7)) := SlAt.set (SlAt.set hs7 (fun a l c h => by have := HN7.out a l c h; omega) 7 _) HN7.out 7 _
    clear hs7 O
    go_upto_region 16 with fail
    clear p0 r0 c0 z0 p1 r1 c1 z1 p2 r2 c2 z2 p3 r3 c3 z3 p4 r4 c4 z4 p5 r5 c5 z5 p6 r6 c6 z6 p7 r7 c7 z7 e7 y7
    have O := O7
    clear O7
    generalize (v7.setCell ⟨w.heap.size + 1, 7, none⟩ (.slice sa7 sl7 sc7)).setCell ⟨w.heap.size + 1 + 1, 7, none⟩ (.bool (Scr.bOk x7)) = w9 at *
    obtain ⟨oks, hoks⟩ : ∃ oks, oks = [Scr.nOk x0, Scr.bOk x1, Scr.bOk x2, Scr.nOk x3, Scr.nOk x4, Scr.nOk x5, true, Scr.bOk x7] := ⟨_, rfl⟩
    have hlen : oks.length = 8 := by rw [hoks]; rfl
    have HC1 := Lib.hid (Scr.op1_all x0 x1 x2 x3 x4 x5 ⟨#[48]⟩ x7 oks (by rw [hoks, show Scr.fOk ⟨#[48]⟩ = true from rfl]))
    have HCELL : Hid (∀ j, j < 8 → w9.cell? ⟨w.heap.size + 1 + 1, j, none⟩ = some (.bool (oks.getD j false))) := fun j hj => cell_oks O.k3 oks (by rw [hoks]; rfl) j (by omega)
    have HLEN := Lib.hid hlen
    have HO := Lib.hid O
    clear hlen hoks O
    go_wp2_with fail
    go_loop [10] (fun i => ∃ j : Nat, i = .int .i64 j ∧ j ≤ 8 ∧ Hid (∀ k, k < j → oks.getD k false = true)) (fun i => 8 - (intOf i).toNat)
    case atStart => exact ⟨0, rfl, by omega, fun k hk => absurd hk (Nat.not_lt_zero _)⟩
    case round =>
      obtain ⟨j, rfl, hj, HJ⟩ := hrel
      by_cases hlt : j < 8
      · have cj := HCELL.out j hlt
        have qlt : (j : Int) < 8 := by omega
        obtain ⟨q, hq⟩ : ∃ q, oks.getD j false = q := ⟨_, rfl⟩
        rw [hq] at cj
        have HQ := Lib.hid hq
        clear hq
        cases q
        · have O := HO.out
          obtain ⟨p0, r0⟩ := O.cell1 0
          obtain ⟨p1, r1⟩ := O.cell1 1
          obtain ⟨p2, r2⟩ := O.cell1 2
          obtain ⟨p3, r3⟩ := O.cell1 3
          obtain ⟨p4, r4⟩ := O.cell1 4
          obtain ⟨p5, r5⟩ := O.cell1 5
          obtain ⟨p6, r6⟩ := O.cell1 6
          obtain ⟨p7, r7⟩ := O.cell1 7
          simp only [List.getElem?_toArray, List.getElem?_cons_zero, List.getElem?_cons_succ] at p0 p1 p2 p3 p4 p5 p6 p7
          clear O
          go_wp2_with fail
          exact bodyPost_ret (results46_ _ _ w.heap.size #[.int .i64 0, .string ⟨#[]⟩, .string ⟨#[]⟩, .int .i64 0, .int .i64 0, .int .i64 0, .bool false, .slice none 0 0] (0, 0) (.bool false) rfl rfl ((((((((HO.out.set1 0 (.int .i64 0)).set1 1 (.string ⟨#[]⟩)).set1 2 (.string ⟨#[]⟩)).set1 3 (.int .i64 0)).set1 4 (.int .i64 0)).set1 5 (.int .i64 0)).set1 6 (.bool false)).set1 7 (.slice none 0 0)).k1 rfl) rfl (rop_no (by rw [HC1.out, Scr.all_no (by rw [HLEN.out]; exact hlt) HQ.out]; rfl) rfl ((((((((HO.out.set1 0 (.int .i64 0)).set1 1 (.string ⟨#[]⟩)).set1 2 (.string ⟨#[]⟩)).set1 3 (.int .i64 0)).set1 4 (.int .i64 0)).set1 5 (.int .i64 0)).set1 6 (.bool false)).set1 7 (.slice none 0 0)).fr)
        · go_wp2_with fail
          go_round
          case rel => exact ⟨j + 1, by go_num, by omega, fun k hk => by
            rcases Nat.lt_or_ge k j with h | h
            · exact HJ.out k h
            · rw [show k = j by omega]; exact HQ.out⟩
          case measure => simp [intOf]; omega
      · obtain rfl : j = 8 := by omega
        have hall : Scr.op1 [x0, x1, x2, x3, x4, x5, ⟨#[48]⟩, x7] = some ⟨Scr.nV x0, Scr.bV x1, Scr.bV x2, Scr.nV x3, Scr.nV x4, Scr.nV x5, Scr.fV ⟨#[48]⟩, Scr.bV x7⟩ := by
          rw [HC1.out, Scr.all_yes (by rw [HLEN.out]; exact HJ.out)]; rfl
        have HALL := Lib.hid hall
        clear hall
        have O := HO.out
        obtain ⟨p0, r0⟩ := O.cell1 0
        obtain ⟨p1, r1⟩ := O.cell1 1
        obtain ⟨p2, r2⟩ := O.cell1 2
        obtain ⟨p3, r3⟩ := O.cell1 3
        obtain ⟨p4, r4⟩ := O.cell1 4
        obtain ⟨p5, r5⟩ := O.cell1 5
        obtain ⟨p6, r6⟩ := O.cell1 6
        obtain ⟨p7, r7⟩ := O.cell1 7
        obtain ⟨c0, _⟩ := O.cell2 0
        obtain ⟨c1, _⟩ := O.cell2 1
        obtain ⟨c2, _⟩ := O.cell2 2
        obtain ⟨c3, _⟩ := O.cell2 3
        obtain ⟨c4, _⟩ := O.cell2 4
        obtain ⟨c5, _⟩ := O.cell2 5
        obtain ⟨c6, _⟩ := O.cell2 6
        obtain ⟨c7, _⟩ := O.cell2 7
        simp only [List.getElem?_toArray, List.getElem?_cons_zero, List.getElem?_cons_succ, List.setIfInBounds_toArray, List.set_cons_zero, List.set_cons_succ] at p0 p1 p2 p3 p4 p5 p6 p7 c0 c1 c2 c3 c4 c5 c6 c7
        clear O
        go_wp2_with fail
        exact bodyPost_ret (results46_ _ _ w.heap.size #[.int .i64 (Scr.nV x0), .string ⟨(Scr.bV x1).toArray⟩, .string ⟨(Scr.bV x2).toArray⟩, .int .i64 (Scr.nV x3), .int .i64 (Scr.nV x4), .int .i64 (Scr.nV x5), .bool false, .slice sa7 sl7 sc7] (0, 0) (.bool true) rfl rfl ((((((((HO.out.set1 0 (.int .i64 (Scr.nV x0))).set1 1 (.string ⟨(Scr.bV x1).toArray⟩)).set1 2 (.string ⟨(Scr.bV x2).toArray⟩)).set1 3 (.int .i64 (Scr.nV x3))).set1 4 (.int .i64 (Scr.nV x4))).set1 5 (.int .i64 (Scr.nV x5))).set1 6 (.bool false)).set1 7 (.slice sa7 sl7 sc7)).k1 rfl) rfl (rop_yes HALL.out rfl ⟨.slice sa7 sl7 sc7, (by rw [show Scr.fV ⟨#[48]⟩ = false from rfl]), (SlAt.set (SlAt.set (SlAt.set (SlAt.set (SlAt.set (SlAt.set (SlAt.set (SlAt.set HS7.out (fun a l c h => by have := HN7.out a l c h; omega) 0 (.int .i64 (Scr.nV x0))) (fun a l c h => by have := HN7.out a l c h; omega) 1 (.string ⟨(Scr.bV x1).toArray⟩)) (fun a l c h => by have := HN7.out a l c h; omega) 2 (.string ⟨(Scr.bV x2).toArray⟩)) (fun a l c h => by have := HN7.out a l c h; omega) 3 (.int .i64 (Scr.nV x3))) (fun a l c h => by have := HN7.out a l c h; omega) 4 (.int .i64 (Scr.nV x4))) (fun a l c h => by have := HN7.out a l c h; omega) 5 (.int .i64 (Scr.nV x5))) (fun a l c h => by have := HN7.out a l c h; omega) 6 (.bool false)) (fun a l c h => by have := HN7.out a l c h; omega) 7 (.slice sa7 sl7 sc7)), nV_in _, nV_in _, nV_in _, nV_in _, HL1.out, HL2.out, HL7.out⟩ (fun a l c hm => by
          simp at hm
          have := HN7.out a l c (by simp [hm])
          omega) ((((((((HO.out.set1 0 (.int .i64 (Scr.nV x0))).set1 1 (.string ⟨(Scr.bV x1).toArray⟩)).set1 2 (.string ⟨(Scr.bV x2).toArray⟩)).set1 3 (.int .i64 (Scr.nV x3))).set1 4 (.int .i64 (Scr.nV x4))).set1 5 (.int .i64 (Scr.nV x5))).set1 6 (.bool false)).set1 7 (.slice sa7 sl7 sc7)).fr)
  · have t0 : (x6.toList == [48]) = false := by rw [ByteArray.toList_eq]; simpa using h60
    have HF : Hid (Scr.fOk x6 = (x6.toList == [49])) := by unfold Scr.fOk; rw [ByteArray.toList_eq] at t0 ⊢; rw [t0]; rfl
    have HFV : Hid (Scr.fV x6 = (x6.toList == [49])) := by unfold Scr.fV; rw [ByteArray.toList_eq]; rfl
    clear h60
    go_wp2_with fail
    replace O := (((O.set2 5 (.int .i64 (Scr.nV x5))).set3 5 (.bool (Scr.nOk x5))).set2 6 (.bool (x6.toList == [49]))).set3 6 (.bool (x6.toList == [49]))
    replace LB : w.heap.size + 1 + 1 < ((((v5.setCell ⟨w.heap.size + 1, 5, none⟩ (.int .i64 (Scr.nV x5))).setCell ⟨w.heap.size + 1 + 1, 5, none⟩ (.bool (Scr.nOk x5))).setCell ⟨w.heap.size + 1, 6, none⟩ (.bool (x6.toList == [49]))).setCell ⟨w.heap.size + 1 + 1, 6, none⟩ (.bool (x6.toList == [49]))).heap.size := by simpa [World.setCell] using LB
    clear c5 z5 e5 y5 c6 z6 e6 y6 d6 d7 m23
    have w8 : 8 ≤ _ := Nat.le_trans h8 O.fr.size
    refine (raw_ x7 _ w8 S7.out).mono ?_
    rintro e v7 ⟨t7, rfl, hs7, hn7, g7, hl7⟩
    obtain ⟨sa7, sl7, sc7, rfl⟩ := hs7.shape
    have HN7 := Lib.hid (raw_new hn7 LB)
    have HL7 := Lib.hid hl7
    replace O := O.no g7
    replace LB := Nat.lt_of_lt_of_le LB g7.size
    clear hn7 hl7 w8
    have m23 := O.n23
    have m12 := O.n12
    have m13 := O.n13
    obtain ⟨p0, r0⟩ := O.cell1 0
    obtain ⟨p1, r1⟩ := O.cell1 1
    obtain ⟨p2, r2⟩ := O.cell1 2
    obtain ⟨p3, r3⟩ := O.cell1 3
    obtain ⟨p4, r4⟩ := O.cell1 4
    obtain ⟨p5, r5⟩ := O.cell1 5
    obtain ⟨p6, r6⟩ := O.cell1 6
    obtain ⟨p7, r7⟩ := O.cell1 7
    obtain ⟨c0, z0⟩ := O.cell2 0
    obtain ⟨c1, z1⟩ := O.cell2 1
    obtain ⟨c2, z2⟩ := O.cell2 2
    obtain ⟨c3, z3⟩ := O.cell2 3
    obtain ⟨c4, z4⟩ := O.cell2 4
    obtain ⟨c5, z5⟩ := O.cell2 5
    obtain ⟨c6, z6⟩ := O.cell2 6
    obtain ⟨c7, z7⟩ := O.cell2 7
    obtain ⟨e7, y7⟩ := O.cell3 7
    simp only [List.getElem?_toArray, List.getElem?_cons_zero, List.getElem?_cons_succ, List.setIfInBounds_toArray, List.set_cons_zero, List.set_cons_succ] at p0 p1 p2 p3 p4 p5 p6 p7 c0 c1 c2 c3 c4 c5 c6 c7 e7
    have O7 := (O.set2 7 (.slice sa7 sl7 sc7)).set3 7 (.bool (Scr.bOk x7))
    have HS7 : Hid (SlAt ((v7.setCell ⟨w.heap.size + 1, 7, none⟩ (.slice sa7 sl7 sc7)).setCell ⟨w.heap.size + 1 + 1, 7, none⟩ (.bool (Scr.bOk x7))) (.slice sa7 sl7 sc7) (Scr.bV x7)) := SlAt.set (SlAt.set hs7 (fun a l c h => by have := HN7.out a l c h; omega) 7 _) HN7.out 7 _
    clear hs7 O
    go_upto_region 16 with fail
    clear p0 r0 c0 z0 p1 r1 c1 z1 p2 r2 c2 z2 p3 r3 c3 z3 p4 r4 c4 z4 p5 r5 c5 z5 p6 r6 c6 z6 p7 r7 c7 z7 e7 y7
    have O := O7
    clear O7
    generalize (v7.setCell ⟨w.heap.size + 1, 7, none⟩ (.slice sa7 sl7 sc7)).setCell ⟨w.heap.size + 1 + 1, 7, none⟩ (.bool (Scr.bOk x7)) = w9 at *
    obtain ⟨oks, hoks⟩ : ∃ oks, oks = [Scr.nOk x0, Scr.bOk x1, Scr.bOk x2, Scr.nOk x3, Scr.nOk x4, Scr.nOk x5, (x6.toList == [49]), Scr.bOk x7] := ⟨_, rfl⟩
    have hlen : oks.length = 8 := by rw [hoks]; rfl
    have HC1 := Lib.hid (Scr.op1_all x0 x1 x2 x3 x4 x5 x6 x7 oks (by rw [hoks, HF.out]))
    have HCELL : Hid (∀ j, j < 8 → w9.cell? ⟨w.heap.size + 1 + 1, j, none⟩ = some (.bool (oks.getD j false))) := fun j hj => cell_oks O.k3 oks (by rw [hoks]; rfl) j (by omega)
    have HLEN := Lib.hid hlen
    have HO := Lib.hid O
    clear hlen hoks O
    go_wp2_with fail
    go_loop [10] (fun i => ∃ j : Nat, i = .int .i64 j ∧ j ≤ 8 ∧ Hid (∀ k, k < j → oks.getD k false = true)) (fun i => 8 - (intOf i).toNat)
    case atStart => exact ⟨0, rfl, by omega, fun k hk => absurd hk (Nat.not_lt_zero _)⟩
    case round =>
      obtain ⟨j, rfl, hj, HJ⟩ := hrel
      by_cases hlt : j < 8
      · have cj := HCELL.out j hlt
        have qlt : (j : Int) < 8 := by omega
        obtain ⟨q, hq⟩ : ∃ q, oks.getD j false = q := ⟨_, rfl⟩
        rw [hq] at cj
        have HQ := Lib.hid hq
        clear hq
        cases q
        · have O := HO.out
          obtain ⟨p0, r0⟩ := O.cell1 0
          obtain ⟨p1, r1⟩ := O.cell1 1
          obtain ⟨p2, r2⟩ := O.cell1 2
          obtain ⟨p3, r3⟩ := O.cell1 3
          obtain ⟨p4, r4⟩ := O.cell1 4
          obtain ⟨p5, r5⟩ := O.cell1 5
          obtain ⟨p6, r6⟩ := O.cell1 6
          obtain ⟨p7, r7⟩ := O.cell1 7
          simp only [List.getElem?_toArray, List.getElem?_cons_zero, List.getElem?_cons_succ] at p0 p1 p2 p3 p4 p5 p6 p7
          clear O
          go_wp2_with fail
          exact bodyPost_ret (results46_ _ _ w.heap.size #[.int .i64 0, .string ⟨#[]⟩, .string ⟨#[]⟩, .int .i64 0, .int .i64 0, .int .i64 0, .bool false, .slice none 0 0] (0, 0) (.bool false) rfl rfl ((((((((HO.out.set1 0 (.int .i64 0)).set1 1 (.string ⟨#[]⟩)).set1 2 (.string ⟨#[]⟩)).set1 3 (.int .i64 0)).set1 4 (.int .i64 0)).set1 5 (.int .i64 0)).set1 6 (.bool false)).set1 7 (.slice none 0 0)).k1 rfl) rfl (rop_no (by rw [HC1.out, Scr.all_no (by rw [HLEN.out]; exact hlt) HQ.out]; rfl) rfl ((((((((HO.out.set1 0 (.int .i64 0)).set1 1 (.string ⟨#[]⟩)).set1 2 (.string ⟨#[]⟩)).set1 3 (.int .i64 0)).set1 4 (.int .i64 0)).set1 5 (.int .i64 0)).set1 6 (.bool false)).set1 7 (.slice none 0 0)).fr)
        · go_wp2_with fail
          go_round
          case rel => exact ⟨j + 1, by go_num, by omega, fun k hk => by
            rcases Nat.lt_or_ge k j with h | h
            · exact HJ.out k h
            · rw [show k = j by omega]; exact HQ.out⟩
          case measure => simp [intOf]; omega
      · obtain rfl : j = 8 := by omega
        have hall : Scr.op1 [x0, x1, x2, x3, x4, x5, x6, x7] = some ⟨Scr.nV x0, Scr.bV x1, Scr.bV x2, Scr.nV x3, Scr.nV x4, Scr.nV x5, Scr.fV x6, Scr.bV x7⟩ := by
          rw [HC1.out, Scr.all_yes (by rw [HLEN.out]; exact HJ.out)]; rfl
        have HALL := Lib.hid hall
        clear hall
        have O := HO.out
        obtain ⟨p0, r0⟩ := O.cell1 0
        obtain ⟨p1, r1⟩ := O.cell1 1
        obtain ⟨p2, r2⟩ := O.cell1 2
        obtain ⟨p3, r3⟩ := O.cell1 3
        obtain ⟨p4, r4⟩ := O.cell1 4
        obtain ⟨p5, r5⟩ := O.cell1 5
        obtain ⟨p6, r6⟩ := O.cell1 6
        obtain ⟨p7, r7⟩ := O.cell1 7
        obtain ⟨c0, _⟩ := O.cell2 0
        obtain ⟨c1, _⟩ := O.cell2 1
        obtain ⟨c2, _⟩ := O.cell2 2
        obtain ⟨c3, _⟩ := O.cell2 3
        obtain ⟨c4, _⟩ := O.cell2 4
        obtain ⟨c5, _⟩ := O.cell2 5
        obtain ⟨c6, _⟩ := O.cell2 6
        obtain ⟨c7, _⟩ := O.cell2 7
        simp only [List.getElem?_toArray, List.getElem?_cons_zero, List.getElem?_cons_succ, List.setIfInBounds_toArray, List.set_cons_zero, List.set_cons_succ] at p0 p1 p2 p3 p4 p5 p6 p7 c0 c1 c2 c3 c4 c5 c6 c7
        clear O
        go_wp2_with fail
        exact bodyPost_ret (results46_ _ _ w.heap.size #[.int .i64 (Scr.nV x0), .string ⟨(Scr.bV x1).toArray⟩, .string ⟨(Scr.bV x2).toArray⟩, .int .i64 (Scr.nV x3), .int .i64 (Scr.nV x4), .int .i64 (Scr.nV x5), .bool (x6.toList == [49]), .slice sa7 sl7 sc7] (0, 0) (.bool true) rfl rfl ((((((((HO.out.set1 0 (.int .i64 (Scr.nV x0))).set1 1 (.string ⟨(Scr.bV x1).toArray⟩)).set1 2 (.string ⟨(Scr.bV x2).toArray⟩)).set1 3 (.int .i64 (Scr.nV x3))).set1 4 (.int .i64 (Scr.nV x4))).set1 5 (.int .i64 (Scr.nV x5))).set1 6 (.bool (x6.toList == [49]))).set1 7 (.slice sa7 sl7 sc7)).k1 rfl) rfl (rop_yes HALL.out rfl ⟨.slice sa7 sl7 sc7, (by rw [show Scr.fV x6 = (x6.toList == [49]) from HFV.out]), (SlAt.set (SlAt.set (SlAt.set (SlAt.set (SlAt.set (SlAt.set (SlAt.set (SlAt.set HS7.out (fun a l c h => by have := HN7.out a l c h; omega) 0 (.int .i64 (Scr.nV x0))) (fun a l c h => by have := HN7.out a l c h; omega) 1 (.string ⟨(Scr.bV x1).toArray⟩)) (fun a l c h => by have := HN7.out a l c h; omega) 2 (.string ⟨(Scr.bV x2).toArray⟩)) (fun a l c h => by have := HN7.out a l c h; omega) 3 (.int .i64 (Scr.nV x3))) (fun a l c h => by have := HN7.out a l c h; omega) 4 (.int .i64 (Scr.nV x4))) (fun a l c h => by have := HN7.out a l c h; omega) 5 (.int .i64 (Scr.nV x5))) (fun a l c h => by have := HN7.out a l c h; omega) 6 (.bool (x6.toList == [49]))) (fun a l c h => by have := HN7.out a l c h; omega) 7 (.slice sa7 sl7 sc7)), nV_in _, nV_in _, nV_in _, nV_in _, HL1.out, HL2.out, HL7.out⟩ (fun a l c hm => by
          simp at hm
          have := HN7.out a l c (by simp [hm])
          omega) ((((((((HO.out.set1 0 (.int .i64 (Scr.nV x0))).set1 1 (.string ⟨(Scr.bV x1).toArray⟩)).set1 2 (.string ⟨(Scr.bV x2).toArray⟩)).set1 3 (.int .i64 (Scr.nV x3))).set1 4 (.int .i64 (Scr.nV x4))).set1 5 (.int .i64 (Scr.nV x5))).set1 6 (.bool (x6.toList == [49]))).set1 7 (.slice sa7 sl7 sc7)).fr)
end Go.Proofs.YtkcgijidgppeiaaDoor
