/- The script's reader, walked: an operation. -/
import Derived.Test.YtkcgijidgppeiaaDoorP3
namespace Go.Proofs.YtkcgijidgppeiaaDoor
open Go.RowKit

theorem run_convert_sl (w : World) (v : Value) (bs : List UInt8) (h : SlAt w v bs) : (convert 43 9 v).run Tryd.prog w = .ok (.string ⟨bs.toArray⟩) w := by
  rcases h with ⟨rfl, a, c, rfl⟩ | ⟨b, off, c, rfl, hl, hb, h8, hc⟩
  · rw [run_convert_bytes_string (e := 5) w 43 9 a 0 c Tryd.underlying43 Tryd.underlying5 Tryd.underlying9]
    cases a with
    | none => rfl
    | some a =>
      rw [run_bytesToString w a 0 c [] (by simpa using run_loadCells_list (P := Tryd.prog) (w := w) a [] (fun j v h => by simp at h))]
      rfl
  · rw [run_convert_bytes_string (e := 5) w 43 9 _ _ c Tryd.underlying43 Tryd.underlying5 Tryd.underlying9]
    have hld := run_loadCells_list (P := Tryd.prog) (w := w) ⟨b, off, none⟩ ((bs.map fun x => (x.toNat : Int)).map (Value.int .u8)) (fun j v hj => by
      simp only [List.map_map, List.getElem?_map, Option.map_eq_some_iff] at hj
      obtain ⟨x, hx, rfl⟩ := hj
      have := hc j x hx
      unfold Addr.add
      split
      · rename_i h0; subst h0; simpa using this
      · simpa using this)
    simp only [List.length_map] at hld
    rw [run_bytesToString w ⟨b, off, none⟩ bs.length c (bs.map fun x => (x.toNat : Int)) hld]
    congr 2
    have hf : ∀ (l : List UInt8) (s : ByteArray), ((l.map fun x => (x.toNat : Int)).foldl (fun r n => r.push (UInt8.ofNat n.toNat)) s) = ⟨s.data ++ l.toArray⟩ := by
      intro l
      induction l with
      | nil => intro s; cases s; simp
      | cons a l ih =>
        intro s
        simp only [List.map_cons, List.foldl_cons, ih]
        cases s
        simp [ByteArray.push]
    rw [hf]
    simp [ByteArray.empty, ByteArray.emptyWithCapacity]
    rfl

theorem SlAt.shape {w : World} {v : Value} {bs : List UInt8} (h : SlAt w v bs) : ∃ a l c, v = .slice a l c := by
  rcases h with ⟨_, a, c, rfl⟩ | ⟨b, off, c, rfl, _⟩
  · exact ⟨_, _, _, rfl⟩
  · exact ⟨_, _, _, rfl⟩

theorem NewSl.own {w0 w : World} {br b2 bc : Nat} {ws : List ByteArray} {c2 cc : Array Value} {t : TypeId} {v : Value} (h : NewSl w v) (o : Two w0 w br ws b2 c2 bc cc t) : ∀ a l c, v = .slice (some a) l c → b2 < a.block ∧ bc < a.block := by
  intro a l c hv
  have h1 := h a l c hv
  have h2 := lt_of_block o.k2
  have h3 := lt_of_block o.kc
  omega

theorem SlAt.set {w : World} {v : Value} {bs : List UInt8} (h : SlAt w v bs) {b : Nat} (hb : ∀ a l c, v = .slice (some a) l c → b < a.block) (j : Nat) (u : Value) : SlAt (w.setCell ⟨b, j, none⟩ u) v bs :=
  h.fr (fr_set w b j u) (fun a l c hv e => by have := hb a l c hv; omega)

/-- an operation's eight values. -/
def OpV (w : World) (o : Scr.OpS) (vs : List Value) : Prop :=
  ∃ vb, vs = [.int .i64 o.kind, .string ⟨o.path.toArray⟩, .string ⟨o.to.toArray⟩, .int .i64 o.handle, .int .i64 o.pos, .int .i64 o.n, .bool o.writes, vb] ∧ SlAt w vb o.b ∧
    I64 o.kind ∧ I64 o.handle ∧ I64 o.pos ∧ I64 o.n ∧ o.path.length ≤ 1048576 ∧ o.to.length ≤ 1048576 ∧ o.b.length ≤ 1048576

/-- every slice among the values lies in a block that is not older than B. -/
def NewVs (B : Nat) (vs : List Value) : Prop := ∀ a l c, Value.slice (some a) l c ∈ vs → B ≤ a.block

set_option maxRecDepth 100000 in
set_option maxHeartbeats 1600000 in
theorem op_ (br : Nat) (ws : List ByteArray) (w : World) (h : Rd w br ws) (hg : Glob w) : Calls Tryd.prog 42 #[.pointer (some ⟨br, 0, none⟩)] w (RdPost w br ws Scr.op fun w' x v => ∃ vs, v = .agg vs.toArray ∧ OpV w' x vs ∧ NewVs w.heap.size vs ∧ Tag5 w' vs) := by
  have hlt := h.lt
  have h8 := h.1
  have O : Two w ((w.alloc (.cells #[.int .i64 0, .string ⟨#[]⟩, .string ⟨#[]⟩, .int .i64 0, .int .i64 0, .int .i64 0, .bool false, .slice none 0 0] 45)).alloc (.cells #[.int .i64 0, .string ⟨#[]⟩, .string ⟨#[]⟩, .int .i64 0, .int .i64 0, .int .i64 0, .bool false, .slice none 0 0] 45)) br ws w.heap.size #[.int .i64 0, .string ⟨#[]⟩, .string ⟨#[]⟩, .int .i64 0, .int .i64 0, .int .i64 0, .bool false, .slice none 0 0] (w.heap.size + 1) #[.int .i64 0, .string ⟨#[]⟩, .string ⟨#[]⟩, .int .i64 0, .int .i64 0, .int .i64 0, .bool false, .slice none 0 0] 45 := by
    have hsz : ((w.alloc (.cells #[.int .i64 0, .string ⟨#[]⟩, .string ⟨#[]⟩, .int .i64 0, .int .i64 0, .int .i64 0, .bool false, .slice none 0 0] 45))).heap.size = w.heap.size + 1 := by simp
    refine ⟨hg.no (((Fr.refl _).alloc _).alloc _), h.no (((Fr.refl _).alloc _).alloc _), ?_, ?_, ((Fr.refl _).alloc _).alloc _, Nat.le_refl _, by omega, by omega, hlt⟩
    · rw [Below.heap_alloc _ _ _ (by simp)]; exact new_at _ _
    · have := new_at (w.alloc (.cells #[.int .i64 0, .string ⟨#[]⟩, .string ⟨#[]⟩, .int .i64 0, .int .i64 0, .int .i64 0, .bool false, .slice none 0 0] 45)) (.cells #[.int .i64 0, .string ⟨#[]⟩, .string ⟨#[]⟩, .int .i64 0, .int .i64 0, .int .i64 0, .bool false, .slice none 0 0] 45)
      rw [hsz] at this
      exact this
  have hne2 : w.heap.size ≠ w.heap.size + 1 := by omega
  clear h hg
  go_enter Tryd.func42, Tryd.ntmps42
  go_wp2_with fail
  refine (num_ br ws _ O.rd O.gl).mono ?_
  rintro e w2 (⟨x0, r0, v0, hf, rfl, ⟨rfl, i0, i1⟩, hr, f⟩ | ⟨hf, rfl, f⟩)
  rotate_left
  · exact ⟨rfl, .inr ⟨by simp [Scr.op, hf], rfl, O.fr.br_trans f⟩⟩
  have H0 := Lib.hid hf
  have I0 : I64 x0 := ⟨i0, i1⟩
  replace O := O.call f hr
  clear hf f hr i0 i1
  obtain ⟨c0, z0⟩ := O.cell 0
  simp only [List.getElem?_toArray, List.getElem?_cons_zero] at c0
  go_wp2_with fail
  replace O := O.setC 0 (.int .i64 x0)
  clear c0 z0
  refine (bytes_ br r0 _ O.rd O.gl).mono ?_
  rintro e w3 (⟨x1, r1, v1, hf, rfl, ⟨hs, hn, hl, ht⟩, hr, f⟩ | ⟨hf, rfl, f⟩)
  rotate_left
  · exact ⟨rfl, .inr ⟨by simp [Scr.op, H0.out, hf], rfl, O.fr.br_trans f⟩⟩
  have H1 := Lib.hid hf
  replace O := O.call f hr
  clear hf f hr hn ht
  have HL1 := Lib.hid hl
  clear hl
  have hcv := run_convert_sl _ _ _ hs
  obtain ⟨c1, z1⟩ := O.cell 1
  simp only [List.getElem?_toArray, List.getElem?_cons_zero, List.getElem?_cons_succ, List.setIfInBounds_toArray, List.set_cons_zero] at c1
  go_wp2_with fail
  replace O := O.setC 1 (.string ⟨x1.toArray⟩)
  clear c1 z1 hcv hs
  refine (bytes_ br r1 _ O.rd O.gl).mono ?_
  rintro e w4 (⟨x2, r2, v2, hf, rfl, ⟨hs, hn, hl, ht⟩, hr, f⟩ | ⟨hf, rfl, f⟩)
  rotate_left
  · exact ⟨rfl, .inr ⟨by simp [Scr.op, H0.out, H1.out, hf], rfl, O.fr.br_trans f⟩⟩
  have H2 := Lib.hid hf
  replace O := O.call f hr
  clear hf f hr hn ht
  have HL2 := Lib.hid hl
  clear hl
  have hcv := run_convert_sl _ _ _ hs
  obtain ⟨c2, z2⟩ := O.cell 2
  simp only [List.getElem?_toArray, List.getElem?_cons_zero, List.getElem?_cons_succ, List.setIfInBounds_toArray, List.set_cons_zero, List.set_cons_succ] at c2
  go_wp2_with fail
  replace O := O.setC 2 (.string ⟨x2.toArray⟩)
  clear c2 z2 hcv hs
  refine (num_ br r2 _ O.rd O.gl).mono ?_
  rintro e w5 (⟨x3, r3, v3, hf, rfl, ⟨rfl, i0, i1⟩, hr, f⟩ | ⟨hf, rfl, f⟩)
  rotate_left
  · exact ⟨rfl, .inr ⟨by simp [Scr.op, H0.out, H1.out, H2.out, hf], rfl, O.fr.br_trans f⟩⟩
  have H3 := Lib.hid hf
  have I3 : I64 x3 := ⟨i0, i1⟩
  replace O := O.call f hr
  clear hf f hr i0 i1
  obtain ⟨c3, z3⟩ := O.cell 3
  simp only [List.getElem?_toArray, List.getElem?_cons_zero, List.getElem?_cons_succ, List.setIfInBounds_toArray, List.set_cons_zero, List.set_cons_succ] at c3
  go_wp2_with fail
  replace O := O.setC 3 (.int .i64 x3)
  clear c3 z3
  refine (num_ br r3 _ O.rd O.gl).mono ?_
  rintro e w6 (⟨x4, r4, v4, hf, rfl, ⟨rfl, i0, i1⟩, hr, f⟩ | ⟨hf, rfl, f⟩)
  rotate_left
  · exact ⟨rfl, .inr ⟨by simp [Scr.op, H0.out, H1.out, H2.out, H3.out, hf], rfl, O.fr.br_trans f⟩⟩
  have H4 := Lib.hid hf
  have I4 : I64 x4 := ⟨i0, i1⟩
  replace O := O.call f hr
  clear hf f hr i0 i1
  obtain ⟨c4, z4⟩ := O.cell 4
  simp only [List.getElem?_toArray, List.getElem?_cons_zero, List.getElem?_cons_succ, List.setIfInBounds_toArray, List.set_cons_zero, List.set_cons_succ] at c4
  go_wp2_with fail
  replace O := O.setC 4 (.int .i64 x4)
  clear c4 z4
  refine (num_ br r4 _ O.rd O.gl).mono ?_
  rintro e w7 (⟨x5, r5, v5, hf, rfl, ⟨rfl, i0, i1⟩, hr, f⟩ | ⟨hf, rfl, f⟩)
  rotate_left
  · exact ⟨rfl, .inr ⟨by simp [Scr.op, H0.out, H1.out, H2.out, H3.out, H4.out, hf], rfl, O.fr.br_trans f⟩⟩
  have H5 := Lib.hid hf
  have I5 : I64 x5 := ⟨i0, i1⟩
  replace O := O.call f hr
  clear hf f hr i0 i1
  obtain ⟨c5, z5⟩ := O.cell 5
  simp only [List.getElem?_toArray, List.getElem?_cons_zero, List.getElem?_cons_succ, List.setIfInBounds_toArray, List.set_cons_zero, List.set_cons_succ] at c5
  go_wp2_with fail
  replace O := O.setC 5 (.int .i64 x5)
  clear c5 z5
  refine (flag_ br r5 _ O.rd O.gl).mono ?_
  rintro e w8 (⟨x6, r6, v6, hf, rfl, rfl, hr, f⟩ | ⟨hf, rfl, f⟩)
  rotate_left
  · exact ⟨rfl, .inr ⟨by simp [Scr.op, H0.out, H1.out, H2.out, H3.out, H4.out, H5.out, hf], rfl, O.fr.br_trans f⟩⟩
  have H6 := Lib.hid hf
  replace O := O.call f hr
  clear hf f hr
  obtain ⟨c6, z6⟩ := O.cell 6
  simp only [List.getElem?_toArray, List.getElem?_cons_zero, List.getElem?_cons_succ, List.setIfInBounds_toArray, List.set_cons_zero, List.set_cons_succ] at c6
  go_wp2_with fail
  replace O := O.setC 6 (.bool x6)
  clear c6 z6
  refine (bytes_ br r6 _ O.rd O.gl).mono ?_
  rintro e w9 (⟨x7, r7, v7, hf, rfl, ⟨hs, hn, hl, ht⟩, hr, f⟩ | ⟨hf, rfl, f⟩)
  rotate_left
  · exact ⟨rfl, .inr ⟨by simp [Scr.op, H0.out, H1.out, H2.out, H3.out, H4.out, H5.out, H6.out, hf], rfl, O.fr.br_trans f⟩⟩
  have H7 := Lib.hid hf
  obtain ⟨sa7, sl7, sc7, rfl⟩ := hs.shape
  have HS7 := Lib.hid hs
  have HL7 := Lib.hid hl
  have HT7 := Lib.hid ht
  have HN7 := Lib.hid (NewSl.own hn O)
  replace O := O.call f hr
  clear hf f hr hs hn hl ht
  obtain ⟨c7, z7⟩ := O.cell 7
  simp only [List.getElem?_toArray, List.getElem?_cons_zero, List.getElem?_cons_succ, List.setIfInBounds_toArray, List.set_cons_zero, List.set_cons_succ] at c7
  have O' := O.setC 7 (.slice sa7 sl7 sc7)
  obtain ⟨d0, y0⟩ := O.cell2 0
  obtain ⟨d1, y1⟩ := O.cell2 1
  obtain ⟨d2, y2⟩ := O.cell2 2
  obtain ⟨d3, y3⟩ := O.cell2 3
  obtain ⟨d4, y4⟩ := O.cell2 4
  obtain ⟨d5, y5⟩ := O.cell2 5
  obtain ⟨d6, y6⟩ := O.cell2 6
  obtain ⟨d7, y7⟩ := O.cell2 7
  obtain ⟨e0, _⟩ := O.cell 0
  obtain ⟨e1, _⟩ := O.cell 1
  obtain ⟨e2, _⟩ := O.cell 2
  obtain ⟨e3, _⟩ := O.cell 3
  obtain ⟨e4, _⟩ := O.cell 4
  obtain ⟨e5, _⟩ := O.cell 5
  obtain ⟨e6, _⟩ := O.cell 6
  simp only [List.getElem?_toArray, List.getElem?_cons_zero, List.getElem?_cons_succ, List.setIfInBounds_toArray, List.set_cons_zero, List.set_cons_succ] at d0 d1 d2 d3 d4 d5 d6 d7 e0 e1 e2 e3 e4 e5 e6
  have O2 := ((((((((O'.set2 0 (.int .i64 x0)).set2 1 (.string ⟨x1.toArray⟩)).set2 2 (.string ⟨x2.toArray⟩)).set2 3 (.int .i64 x3)).set2 4 (.int .i64 x4)).set2 5 (.int .i64 x5)).set2 6 (.bool x6)).set2 7 (.slice sa7 sl7 sc7))
  have FX := (Fr.setCell (S := fun k => k = w.heap.size + 1 ∨ k = w.heap.size) (p := ⟨w.heap.size + 1, 7, none⟩) (Fr.refl w9) (.inl (.inl rfl)) (.slice sa7 sl7 sc7))
  replace FX := Fr.setCell (p := ⟨w.heap.size, 0, none⟩) FX (.inl (.inr rfl)) (.int .i64 x0)
  replace FX := Fr.setCell (p := ⟨w.heap.size, 1, none⟩) FX (.inl (.inr rfl)) (.string ⟨x1.toArray⟩)
  replace FX := Fr.setCell (p := ⟨w.heap.size, 2, none⟩) FX (.inl (.inr rfl)) (.string ⟨x2.toArray⟩)
  replace FX := Fr.setCell (p := ⟨w.heap.size, 3, none⟩) FX (.inl (.inr rfl)) (.int .i64 x3)
  replace FX := Fr.setCell (p := ⟨w.heap.size, 4, none⟩) FX (.inl (.inr rfl)) (.int .i64 x4)
  replace FX := Fr.setCell (p := ⟨w.heap.size, 5, none⟩) FX (.inl (.inr rfl)) (.int .i64 x5)
  replace FX := Fr.setCell (p := ⟨w.heap.size, 6, none⟩) FX (.inl (.inr rfl)) (.bool x6)
  replace FX := Fr.setCell (p := ⟨w.heap.size, 7, none⟩) FX (.inl (.inr rfl)) (.slice sa7 sl7 sc7)
  have T2 := Lib.hid (HT7.out.fr FX (fun a l c hm e => by
    simp at hm
    have := HN7.out a l c (by simp [hm])
    omega))
  clear FX
  have S2 := Lib.hid (SlAt.set (SlAt.set (SlAt.set (SlAt.set (SlAt.set (SlAt.set (SlAt.set (SlAt.set (SlAt.set HS7.out (fun a l c h => (HN7.out a l c h).2) 7 (.slice sa7 sl7 sc7)) (fun a l c h => (HN7.out a l c h).1) 0 (.int .i64 x0)) (fun a l c h => (HN7.out a l c h).1) 1 (.string ⟨x1.toArray⟩)) (fun a l c h => (HN7.out a l c h).1) 2 (.string ⟨x2.toArray⟩)) (fun a l c h => (HN7.out a l c h).1) 3 (.int .i64 x3)) (fun a l c h => (HN7.out a l c h).1) 4 (.int .i64 x4)) (fun a l c h => (HN7.out a l c h).1) 5 (.int .i64 x5)) (fun a l c h => (HN7.out a l c h).1) 6 (.bool x6)) (fun a l c h => (HN7.out a l c h).1) 7 (.slice sa7 sl7 sc7))
  clear O' O
  go_wp2_with fail
  refine bodyPost_ret (v := .agg #[.int .i64 x0, .string ⟨x1.toArray⟩, .string ⟨x2.toArray⟩, .int .i64 x3, .int .i64 x4, .int .i64 x5, .bool x6, (.slice sa7 sl7 sc7)]) (by simp [results, Tryd.results42, go_sem, d0, d1, d2, d3, d4, d5, d6, d7]) rfl (.inl ⟨⟨x0, x1, x2, x3, x4, x5, x6, x7⟩, r7, _, ?_, rfl, ⟨[.int .i64 x0, .string ⟨x1.toArray⟩, .string ⟨x2.toArray⟩, .int .i64 x3, .int .i64 x4, .int .i64 x5, .bool x6, (.slice sa7 sl7 sc7)], rfl, ⟨(.slice sa7 sl7 sc7), rfl, S2.out, I0, I3, I4, I5, HL1.out, HL2.out, HL7.out⟩, ?_, ?_⟩, O2.rd, O2.fr⟩)
  · simp [Scr.op, H0.out, H1.out, H2.out, H3.out, H4.out, H5.out, H6.out, H7.out]
  · intro a l c hm
    simp at hm
    exact Nat.le_of_lt (HN7.out a l c (by simp [hm])).1
  · intro a l c hm
    simp at hm
    exact T2.out a l c (by simp [hm])
#print axioms op_
end Go.Proofs.YtkcgijidgppeiaaDoor
