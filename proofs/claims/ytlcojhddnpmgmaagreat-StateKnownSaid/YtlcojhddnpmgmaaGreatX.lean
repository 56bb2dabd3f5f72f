/- What a client asks, once: of the life that is, a request that makes what is there; and one of an elder life. Walked. -/
import Derived.Test.YtlcojhddnpmgmaaGreatW
import Derived.Outline
namespace Go.Proofs.YtlcojhddnpmgmaaGreat
open Go.RowKit

theorem asked_old (w : World) (L : Loc) : Calls Tryz.prog 55 #[.pointer (some ⟨L.s, 0, none⟩), .func (Fn.func 82) #[] #[], .agg (req 0 1 ⟨#[47, 102]⟩), .int .i64 2] w fun e w' => e = .returned (.agg (rep 17 0)) ∧ Fr No w w' := by
  unfold req rep
  go_enter Tryz.func55, Tryz.ntmps55
  go_wp2_with fail
  exact bodyPost_ret (v := .agg #[.int .i64 17, .int .i64 0, .int .i64 0, .int .i64 0, .int .i64 0, .bool false, .slice none 0 0, .slice none 0 0]) (by simp [results, Tryz.results55, go_sem]) rfl ⟨rfl, by repeat (first | exact Fr.refl _ | apply Fr.alloc)⟩

set_option maxRecDepth 100000 in
set_option maxHeartbeats 3200000 in
theorem asked_fresh (w : World) (L : Loc) (C : Con) (h : At w L C) (r0 : Nat) (rv vf : Value) (i : Nat) (hrow : C.row = .pointer (some ⟨r0, 0, none⟩)) (hr0 : w.heap[r0]? = some (.cells #[.int .i64 0, .int .i64 0, .int .i64 1, rv] 119 (0, 0))) (hcl : 0 ≤ C.clock ∧ C.clock ≤ 1000) (h1 : Instr.findNow (.int .i64) (.int .i64 1) C.ths.toList 0 = some (some (0, .pointer (some ⟨L.root, 0, none⟩))))
    (hf : Instr.findNow .string (.string ⟨#[102]⟩) C.ins.toList 0 = some (some (i, vf))) :
    Calls Tryz.prog 55 #[.pointer (some ⟨L.s, 0, none⟩), .func (Fn.func 82) #[] #[], .agg (req 2 1 ⟨#[47, 102]⟩), .int .i64 0] w fun e w' => ∃ r v b c, e = .returned (.agg (rep 7 0)) ∧ At w' L { tick C with row := .pointer (some ⟨r, 0, none⟩) } ∧ w'.heap[r]? = some (.cells #[.int .i64 0, .int .i64 0, .int .i64 2, v] 119 (0, 0)) ∧ SlIs w' v (repB 7 0) b 0 c ∧ Fr (Turn L) w w' := by
  have f0 : Fr No w ((w.alloc (.cells (req 2 1 ⟨#[47, 102]⟩) 36)).alloc (.cells (rep 0 0) 29)) := ((Fr.refl w).alloc _).alloc _
  have k0 : ((w.alloc (.cells (req 2 1 ⟨#[47, 102]⟩) 36)).alloc (.cells (rep 0 0) 29)).heap[w.heap.size]? = some (.cells (req 2 1 ⟨#[47, 102]⟩) 36 (0, 0)) := ((Fr.refl (S := No) _).alloc _).block_of (new_at w _) id
  have k1 : ((w.alloc (.cells (req 2 1 ⟨#[47, 102]⟩) 36)).alloc (.cells (rep 0 0) 29)).heap[w.heap.size + 1]? = some (.cells (rep 0 0) 29 (0, 0)) := by simpa using new_at (w.alloc (.cells (req 2 1 ⟨#[47, 102]⟩) 36)) (.cells (rep 0 0) 29)
  have a0 := h.no f0
  have hsz0 : ((w.alloc (.cells (req 2 1 ⟨#[47, 102]⟩) 36)).alloc (.cells (rep 0 0) 29)).heap.size = w.heap.size + 1 + 1 := by simp
  unfold req rep at *
  have ls := lt_of_block h.s
  have c2 : ((w.alloc (.cells #[.int .i64 0, .int .i64 0, .int .i64 2, .int .i64 1, .string ⟨#[47, 102]⟩, .string ⟨#[]⟩, .bool false, .bool false, .bool false, .int .i64 0, .int .i64 0, .int .i64 0, .slice none 0 0, .slice none 0 0] 36)).alloc (.cells #[.int .i64 0, .int .i64 0, .int .i64 0, .int .i64 0, .int .i64 0, .bool false, .slice none 0 0, .slice none 0 0] 29)).cell? ⟨L.s, 2, none⟩ = some (.int .i64 C.clock) := by rw [cell_at a0.s]; rfl
  have z2 := frozen_at a0.s 2
  obtain ⟨hc1, hc2⟩ := hcl
  have F3 : Fr (fun k => k = L.s) w (w.setCell ⟨L.s, 2, none⟩ (.int .i64 (C.clock + 1))) := Fr.setCell (S := fun k => k = L.s) (p := ⟨L.s, 2, none⟩) (Fr.refl _) (.inl rfl) _
  have e3 : (w.setCell ⟨L.s, 2, none⟩ (.int .i64 (C.clock + 1))).heap.size = w.heap.size := by simp
  have e4 : ((w.setCell ⟨L.s, 2, none⟩ (.int .i64 (C.clock + 1))).alloc (.cells #[.int .i64 0, .int .i64 0, .int .i64 2, .int .i64 1, .string ⟨#[47, 102]⟩, .string ⟨#[]⟩, .bool false, .bool false, .bool false, .int .i64 0, .int .i64 0, .int .i64 0, .slice none 0 0, .slice none 0 0] 36)).heap.size = w.heap.size + 1 := by simp
  have G3 : Fr No (w.setCell ⟨L.s, 2, none⟩ (.int .i64 (C.clock + 1))) (((w.setCell ⟨L.s, 2, none⟩ (.int .i64 (C.clock + 1))).alloc (.cells #[.int .i64 0, .int .i64 0, .int .i64 2, .int .i64 1, .string ⟨#[47, 102]⟩, .string ⟨#[]⟩, .bool false, .bool false, .bool false, .int .i64 0, .int .i64 0, .int .i64 0, .slice none 0 0, .slice none 0 0] 36)).alloc (.cells #[.int .i64 0, .int .i64 0, .int .i64 0, .int .i64 0, .int .i64 0, .bool false, .slice none 0 0, .slice none 0 0] 29)) := ((Fr.refl _).alloc _).alloc _
  have A3 := Lib.hid ((h.fr (C' := tick C) F3 (by simpa [tick] using setCell_at h.s 2 (.int .i64 (C.clock + 1))) rfl rfl rfl rfl rfl rfl rfl).no G3)
  have HF0 := Lib.hid ((F3.mono (T := Turn L) (fun _ _ e => .inl e)).trans G3 (fun _ _ e => e.elim))
  have k3 : (((w.setCell ⟨L.s, 2, none⟩ (.int .i64 (C.clock + 1))).alloc (.cells #[.int .i64 0, .int .i64 0, .int .i64 2, .int .i64 1, .string ⟨#[47, 102]⟩, .string ⟨#[]⟩, .bool false, .bool false, .bool false, .int .i64 0, .int .i64 0, .int .i64 0, .slice none 0 0, .slice none 0 0] 36)).alloc (.cells #[.int .i64 0, .int .i64 0, .int .i64 0, .int .i64 0, .int .i64 0, .bool false, .slice none 0 0, .slice none 0 0] 29)).heap[(w.setCell ⟨L.s, 2, none⟩ (.int .i64 (C.clock + 1))).heap.size]? = some (.cells #[.int .i64 0, .int .i64 0, .int .i64 2, .int .i64 1, .string ⟨#[47, 102]⟩, .string ⟨#[]⟩, .bool false, .bool false, .bool false, .int .i64 0, .int .i64 0, .int .i64 0, .slice none 0 0, .slice none 0 0] 36 (0, 0)) := ((Fr.refl (S := No) _).alloc _).block_of (new_at (w.setCell ⟨L.s, 2, none⟩ (.int .i64 (C.clock + 1))) _) id
  have k31 := new_at ((w.setCell ⟨L.s, 2, none⟩ (.int .i64 (C.clock + 1))).alloc (.cells #[.int .i64 0, .int .i64 0, .int .i64 2, .int .i64 1, .string ⟨#[47, 102]⟩, .string ⟨#[]⟩, .bool false, .bool false, .bool false, .int .i64 0, .int .i64 0, .int .i64 0, .slice none 0 0, .slice none 0 0] 36)) (.cells #[.int .i64 0, .int .i64 0, .int .i64 0, .int .i64 0, .int .i64 0, .bool false, .slice none 0 0, .slice none 0 0] 29)
  rw [e3] at k3
  rw [e4] at k31
  have K3 := Lib.hid k3
  have K31 := Lib.hid k31
  have R3 := Lib.hid (G3.block_of (F3.block_of hr0 (by intro e; have := h.s; rw [← e, hr0] at this; simp at this)) id)
  have HX := Lib.hid hrow
  have HT := Lib.hid (tried_there _ L (tick C) 2 vf i A3.out h1 hf)
  unfold req rep at HT
  clear h hrow h1 hf a0 k0 k1 F3 G3 e3 e4 k3 k31 hr0 f0 hsz0
  go_enter Tryz.func55, Tryz.ntmps55
  go_wp2_with (refine wpList_load_row rfl 36 (.tmp 6) rfl w.heap.size rfl 36 #[.int .i64 0, .int .i64 0, .int .i64 2, .int .i64 1, .string ⟨#[47, 102]⟩, .string ⟨#[]⟩, .bool false, .bool false, .bool false, .int .i64 0, .int .i64 0, .int .i64 0, .slice none 0 0, .slice none 0 0] (0, 0) _ K3.out Tryz.underlying36 rfl Tryz.size36 ?_)
  with_reducible refine HT.out.mono ?_
  rintro e w4 ⟨rfl, F4⟩
  have a4 := A3.out.no F4
  generalize (((w.setCell ⟨L.s, 2, none⟩ (.int .i64 (C.clock + 1))).alloc (.cells #[.int .i64 0, .int .i64 0, .int .i64 2, .int .i64 1, .string ⟨#[47, 102]⟩, .string ⟨#[]⟩, .bool false, .bool false, .bool false, .int .i64 0, .int .i64 0, .int .i64 0, .slice none 0 0, .slice none 0 0] 36)).alloc (.cells #[.int .i64 0, .int .i64 0, .int .i64 0, .int .i64 0, .int .i64 0, .bool false, .slice none 0 0, .slice none 0 0] 29)) = w3 at *
  generalize hb0 : w.heap.size = b0 at *
  have HB0 := Lib.hid hb0
  clear hb0
  have A4 := Lib.hid a4
  clear a4 HT
  have f5 : Fr No w4 (w4.alloc (.cells #[.int .i64 7, .int .i64 0, .int .i64 0, .int .i64 0, .int .i64 0, .bool false, .slice none 0 0, .slice none 0 0] 29)) := (Fr.refl w4).alloc _
  have c1 : (w4.alloc (.cells #[.int .i64 7, .int .i64 0, .int .i64 0, .int .i64 0, .int .i64 0, .bool false, .slice none 0 0, .slice none 0 0] 29)).cell? ⟨L.s, 1, none⟩ = some (.int .i64 0) := f5.cell_of (by rw [cell_at A4.out.s]; rfl) id
  have k5 := new_at w4 (.cells #[.int .i64 7, .int .i64 0, .int .i64 0, .int .i64 0, .int .i64 0, .bool false, .slice none 0 0, .slice none 0 0] 29)
  have z5 := frozen_at k5 4
  have F5 := Lib.hid f5
  have K5 := Lib.hid k5
  clear f5 k5
  have HE : Hid (Calls Tryz.prog 112 #[.agg #[.int .i64 7, .int .i64 0, .int .i64 0, .int .i64 0, .int .i64 0, .bool false, .slice none 0 0, .slice none 0 0]] (w4.alloc (.cells #[.int .i64 7, .int .i64 0, .int .i64 0, .int .i64 0, .int .i64 0, .bool false, .slice none 0 0, .slice none 0 0] 29)) fun x w' => ∃ v b c, x = .returned (.tuple #[v, .int .i64 0]) ∧ SlIs w' v (repB 7 0) b 0 c ∧ (w4.alloc (.cells #[.int .i64 7, .int .i64 0, .int .i64 0, .int .i64 0, .int .i64 0, .bool false, .slice none 0 0, .slice none 0 0] 29)).heap.size ≤ b ∧ Fr No (w4.alloc (.cells #[.int .i64 7, .int .i64 0, .int .i64 0, .int .i64 0, .int .i64 0, .bool false, .slice none 0 0, .slice none 0 0] 29)) w') := Lib.hid (encode_ 7 0 (by omega) (by omega) _)
  go_wp2_with fail
  with_reducible refine HE.out.mono ?_
  rintro e w6 ⟨v, b, c, rfl, sl, hb6, F6⟩
  have A6 := Lib.hid ((A4.out.no F5.out).no F6)
  obtain ⟨rfl, sl2⟩ := sl
  have SL := Lib.hid sl2
  clear sl2 HE
  go_wp2_with fail
  have F06 : Fr No w4 w6 := F5.out.trans F6 (fun _ _ e => e)
  have K6 := Lib.hid (F06.block_of (F4.block_of K3.out id) id)
  have K61 := Lib.hid (F06.block_of (F4.block_of K31.out id) id)
  have x0 : w6.cell? ⟨b0, 0, none⟩ = some (.int .i64 0) := by rw [cell_at K6.out]; rfl
  have x1 : w6.cell? ⟨b0, 1, none⟩ = some (.int .i64 0) := by rw [cell_at K6.out]; rfl
  have x2 : w6.cell? ⟨b0, 2, none⟩ = some (.int .i64 2) := by rw [cell_at K6.out]; rfl
  have c8 : w6.cell? ⟨L.s, 8, none⟩ = some (.pointer (some ⟨L.win, 0, none⟩)) := by rw [cell_at A6.out.s]; rfl
  have HC := Lib.hid (And.intro SL.out.1 (And.intro SL.out.2.1 SL.out.2.2))
  have hlen : (repB 7 0).length = 14 := rfl
  have HLN := Lib.hid hlen
  have nb : b0 ≠ L.win := by intro e; have := K6.out; rw [e, A6.out.win] at this; simp at this
  have nb1 : b0 + 1 ≠ L.win := by intro e; have := K61.out; rw [e, A6.out.win] at this; simp at this
  have NB := Lib.hid nb
  have NB1 := Lib.hid nb1
  have NS := Lib.hid (A6.out.nes.1.symm)
  clear nb nb1
  have R6 := Lib.hid ((Fr.refl (S := No) w6).drew.block_of (F06.block_of (F4.block_of R3.out id) id) id)
  have HD := Lib.hid (done_ L.win (.pointer (some ⟨r0, 0, none⟩)) 2 0 (repB 7 0) b c w6.drew (by have := (A6.out.no (Fr.refl w6).drew).win; rw [show (tick C).row = .pointer (some ⟨r0, 0, none⟩) from HX.out] at this; exact this) ⟨rfl, SL.out.1, SL.out.2.1, fun j y hj => (Fr.refl (S := No) w6).drew.cell_of (SL.out.2.2 j y hj) id⟩ (by rw [HLN.out]; omega) rfl rfl (fun w' hw' f => ask_fresh L.win r0 rv w' hw' (f.block_of R6.out id)))
  clear c1 z5 hlen
  go_region_held3 (fun w' => w'.cell? ⟨b0, 0, none⟩ = some (.int .i64 0) ∧ w'.cell? ⟨b0, 1, none⟩ = some (.int .i64 0) ∧ w'.cell? ⟨b0, 2, none⟩ = some (.int .i64 2) ∧ w'.cell? ⟨L.s, 8, none⟩ = some (.pointer (some ⟨L.win, 0, none⟩))) (first | go_keep | (go_split_ands; refine ⟨?_, ?_, ?_, ?_⟩ <;> exact F7.cell_of (by assumption) (by first | exact NB.out | exact NS.out)))
    ((go_at_call 113; refine HD.out.mono ?_; rintro e w7 ⟨r, v7, b7, c7, rfl, hw7, hr7, sl7, F7⟩))
  have F67 : Fr (fun k => k = L.win) w6 w7 := (Fr.refl w6).drew.trans F7 (fun _ _ e => e)
  have a7 := A6.out.rowed r F67 hw7
  have N9 : w4.heap.size ≠ L.win := by intro e; have := F6.block_of K5.out id; rw [e, A6.out.win] at this; simp at this
  have K9 := Lib.hid (F67.block_of (F6.block_of K5.out id) N9)
  have K71 := Lib.hid (F67.block_of K61.out NB1.out)
  have HOC := Lib.hid (show (#[.int .i64 7, .int .i64 0, .int .i64 0, .int .i64 0, .int .i64 0, .bool false, .slice none 0 0, .slice none 0 0] : Array Value).all (·.oneCell') = true from by simp [Value.oneCell'])
  have A7 := Lib.hid a7
  have SL7 := Lib.hid sl7
  have R7 := Lib.hid hr7
  have b1 : b0 + 1 < w7.heap.size := lt_of_block K71.out
  clear a7 sl7 hr7 hw7 N9
  go_wp2_with (first | (refine wpList_load_row rfl 29 (.tmp 9) rfl w4.heap.size rfl 29 #[.int .i64 7, .int .i64 0, .int .i64 0, .int .i64 0, .int .i64 0, .bool false, .slice none 0 0, .slice none 0 0] (0, 0) _ K9.out Tryz.underlying29 rfl Tryz.size29 ?_) | (refine wpList_store_row rfl 29 (.tmp 8) (.tmp 61) rfl (b0 + 1) #[.int .i64 7, .int .i64 0, .int .i64 0, .int .i64 0, .int .i64 0, .bool false, .slice none 0 0, .slice none 0 0] rfl rfl 29 _ K71.out Tryz.size29 rfl HOC.out ?_))
  have KF := setRow_at (cs' := #[.int .i64 7, .int .i64 0, .int .i64 0, .int .i64 0, .int .i64 0, .bool false, .slice none 0 0, .slice none 0 0]) K71.out
  have FX : Fr (fun k => k = b0 + 1) w7 (w7.setRow (b0 + 1) #[.int .i64 7, .int .i64 0, .int .i64 0, .int .i64 0, .int .i64 0, .bool false, .slice none 0 0, .slice none 0 0]) := Fr.setRow (S := fun k => k = b0 + 1) (Fr.refl w7) (.inl rfl) #[.int .i64 7, .int .i64 0, .int .i64 0, .int .i64 0, .int .i64 0, .bool false, .slice none 0 0, .slice none 0 0]
  have AF := A7.out.far K71.out FX
  have RF := FX.block_of R7.out (by intro e; have := R7.out; rw [e, K71.out] at this; simp at this)
  have hne : b7 ≠ b0 + 1 := by
    intro e
    have := SL7.out.2.2.2 0 7 rfl
    rw [e, cell_at K71.out] at this
    simp at this
  have FZ : Fr (Turn L) w (w7.setRow (b0 + 1) #[.int .i64 7, .int .i64 0, .int .i64 0, .int .i64 0, .int .i64 0, .bool false, .slice none 0 0, .slice none 0 0]) := by
    have hb := HB0.out
    exact (((HF0.out.trans F4 (fun _ _ e => e.elim)).trans F06 (fun _ _ e => e.elim)).trans F67 (fun _ _ e => .inr (.inl e))).trans FX (fun j hj e => by omega)
  exact bodyPost_ret (v := .agg #[.int .i64 7, .int .i64 0, .int .i64 0, .int .i64 0, .int .i64 0, .bool false, .slice none 0 0, .slice none 0 0]) (results_cell_row rfl _ _ (b0 + 1) 29 _ (0, 0) _ rfl KF Tryz.underlying29 rfl Tryz.size29) rfl ⟨r, v7, b7, c7, rfl, AF, RF, ⟨SL7.out.1, SL7.out.2.1, Nat.lt_of_lt_of_le SL7.out.2.2.1 FX.size, fun j y hj => FX.cell_of (SL7.out.2.2.2 j y hj) hne⟩, FZ⟩
end Go.Proofs.YtlcojhddnpmgmaaGreat
