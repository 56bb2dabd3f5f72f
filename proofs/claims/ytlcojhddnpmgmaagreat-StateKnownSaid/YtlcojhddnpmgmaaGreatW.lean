/- What a client asks, once: a request of a newer life that makes a file. Walked. -/
import Derived.Test.YtlcojhddnpmgmaaGreatV
import Derived.Outline
namespace Go.Proofs.YtlcojhddnpmgmaaGreat
open Go.RowKit

theorem At.nes {w : World} {L : Loc} {C : Con} (h : At w L C) : L.win ≠ L.s ∧ L.tr ≠ L.s ∧ L.tk ≠ L.s ∧ L.th ≠ L.s ∧ L.root ≠ L.s ∧ L.rin ≠ L.s ∧ L.fl ≠ L.s := by
  refine ⟨?_, ?_, ?_, ?_, ?_, ?_, ?_⟩
  · intro e; have := h.win; rw [e, h.s] at this; simp at this
  · intro e; have := h.tr; rw [e, h.s] at this; simp at this
  · intro e; have := h.tk; rw [e, h.s] at this; simp at this
  · exact fun e => ne_map h.s h.th e.symm
  · intro e; have := h.root; rw [e, h.s] at this; simp at this
  · exact fun e => ne_map h.s h.rin e.symm
  · exact fun e => ne_map h.s h.fl e.symm
/-- the state's own cells written: what becomes of it. -/
theorem At.fr {w w' : World} {L : Loc} {C C' : Con} (h : At w L C) (f : Fr (fun k => k = L.s) w w') (hs : w'.heap[L.s]? = some (.cells #[.int .i64 0, .int .i64 0, .int .i64 C'.clock, .int .i64 0, .int .i64 0, .int .i64 0, .int .i64 0, .int .i64 0, .pointer (some ⟨L.win, 0, none⟩), .pointer (some ⟨L.tr, 0, none⟩), .pointer (some ⟨L.tk, 0, none⟩), .map (some L.fl), .map (some L.us)] 104 (0, 0)))
    (e1 : C'.row = C.row) (e2 : C'.ths = C.ths) (e3 : C'.tc = C.tc) (e4 : C'.ins = C.ins) (e5 : C'.ic = C.ic) (e6 : C'.fls = C.fls) (e7 : C'.fc = C.fc) : At w' L C' := by
  obtain ⟨n1, n2, n3, n4, n5, n6, n7⟩ := h.nes
  exact ⟨hs, by rw [e1]; exact f.block_of h.win n1, f.block_of h.tr n2, f.block_of h.tk n3, by rw [e2, e3]; exact f.block_of h.th n4, f.block_of h.root n5, by rw [e4, e5]; exact f.block_of h.rin n6, by rw [e6, e7]; exact f.block_of h.fl n7, h.ne⟩
/-- the first row written. -/
theorem At.rowed {w w' : World} {L : Loc} {C : Con} (h : At w L C) (r : Nat) (f : Fr (fun k => k = L.win) w w') (hw : Win w' L.win (.pointer (some ⟨r, 0, none⟩))) : At w' L { C with row := .pointer (some ⟨r, 0, none⟩) } := by
  obtain ⟨n1, n2, n3, n4, n5, n6, n7⟩ := h.nes
  have m2 : L.tr ≠ L.win := by intro e; have := h.tr; rw [e, h.win] at this; simp at this
  have m3 : L.tk ≠ L.win := by intro e; have := h.tk; rw [e, h.win] at this; simp at this
  have m4 := ne_map h.win h.th
  have m5 : L.root ≠ L.win := by intro e; have := h.root; rw [e, h.win] at this; simp at this
  have m6 := ne_map h.win h.rin
  have m7 := ne_map h.win h.fl
  exact ⟨f.block_of h.s (fun e => n1 e.symm), hw, f.block_of h.tr m2, f.block_of h.tk m3, f.block_of h.th (fun e => m4 e.symm), f.block_of h.root m5, f.block_of h.rin (fun e => m6 e.symm), f.block_of h.fl (fun e => m7 e.symm), h.ne⟩

/-- a block of cells is none of a state's files. -/
theorem At.noFile {w : World} {L : Loc} {C : Con} (h : At w L C) {b : Nat} {cs : Array Value} {t : TypeId} {fz : Nat × Nat} (hb : w.heap[b]? = some (.cells cs t fz)) : ¬ Files L b := by
  rintro (e | e | e)
  · exact ne_map hb h.th e
  · exact ne_map hb h.rin e
  · exact ne_map hb h.fl e

/-- a reply's own cells written: what becomes of a state. -/
theorem At.far {w w' : World} {L : Loc} {C : Con} (h : At w L C) {b : Nat} {cs : Array Value} {fz : Nat × Nat} (hb : w.heap[b]? = some (.cells cs 29 fz)) (f : Fr (fun k => k = b) w w') : At w' L C :=
  ⟨f.block_of h.s (by intro e; have := h.s; rw [e, hb] at this; simp at this), f.block_of h.win (by intro e; have := h.win; rw [e, hb] at this; simp at this), f.block_of h.tr (by intro e; have := h.tr; rw [e, hb] at this; simp at this), f.block_of h.tk (by intro e; have := h.tk; rw [e, hb] at this; simp at this), f.block_of h.th (fun e => ne_map hb h.th e.symm), f.block_of h.root (by intro e; have := h.root; rw [e, hb] at this; simp at this), f.block_of h.rin (fun e => ne_map hb h.rin e.symm), f.block_of h.fl (fun e => ne_map hb h.fl e.symm), h.ne⟩

/-- what a request may turn of a state. -/
def Turn (L : Loc) (k : Nat) : Prop := k = L.s ∨ k = L.win ∨ Files L k
def tick (C : Con) : Con := { C with clock := C.clock + 1 }

theorem Tryz.size36 : (Tryz.prog.info? 36).map (·.size) = some 14 := by kernel_rfl

set_option maxRecDepth 100000 in
set_option maxHeartbeats 3200000 in
theorem asked_new (w : World) (L : Loc) (C : Con) (h : At w L C) (hrow : C.row = .pointer none) (hcl : 0 ≤ C.clock ∧ C.clock ≤ 1000) (hsz : C.ths.size < 128) (h0 : Instr.findNow (.int .i64) (.int .i64 1) C.ths.toList 0 = some (some (0, .pointer (some ⟨L.root, 0, none⟩))))
    (h1 : ∀ x : Nat, Instr.findNow (.int .i64) (.int .i64 1) (C.ths.push { key := .int .i64 2, val := .pointer (some ⟨x, 0, none⟩), born := C.tc }).toList 0 = some (some (0, .pointer (some ⟨L.root, 0, none⟩))))
    (h2 : Instr.findNow (.int .i64) (.int .i64 2) C.ths.toList 0 = some none) (hf : Instr.findNow .string (.string ⟨#[102]⟩) C.ins.toList 0 = some none) (h3 : Instr.findNow (.int .i64) (.int .i64 2) C.fls.toList 0 = some none) :
    Calls Tryz.prog 55 #[.pointer (some ⟨L.s, 0, none⟩), .func (Fn.func 82) #[] #[], .agg (req 1 1 ⟨#[47, 102]⟩), .int .i64 3] w fun e w' => ∃ x m r v b c, e = .returned (.agg (rep 0 2)) ∧ At w' L { (tick C).file x m with row := .pointer (some ⟨r, 0, none⟩) } ∧ w'.heap[r]? = some (.cells #[.int .i64 0, .int .i64 0, .int .i64 1, v] 119 (0, 0)) ∧ SlIs w' v (repB 0 2) b 0 c ∧ Fr (Turn L) w w' := by
  have f0 : Fr No w ((w.alloc (.cells (req 1 1 ⟨#[47, 102]⟩) 36)).alloc (.cells (rep 0 0) 29)) := ((Fr.refl w).alloc _).alloc _
  have k0 : ((w.alloc (.cells (req 1 1 ⟨#[47, 102]⟩) 36)).alloc (.cells (rep 0 0) 29)).heap[w.heap.size]? = some (.cells (req 1 1 ⟨#[47, 102]⟩) 36 (0, 0)) := ((Fr.refl (S := No) _).alloc _).block_of (new_at w _) id
  have k1 : ((w.alloc (.cells (req 1 1 ⟨#[47, 102]⟩) 36)).alloc (.cells (rep 0 0) 29)).heap[w.heap.size + 1]? = some (.cells (rep 0 0) 29 (0, 0)) := by simpa using new_at (w.alloc (.cells (req 1 1 ⟨#[47, 102]⟩) 36)) (.cells (rep 0 0) 29)
  have a0 := h.no f0
  have hsz0 : ((w.alloc (.cells (req 1 1 ⟨#[47, 102]⟩) 36)).alloc (.cells (rep 0 0) 29)).heap.size = w.heap.size + 1 + 1 := by simp
  unfold req rep at *
  go_enter Tryz.func55, Tryz.ntmps55
  go_wp2_with fail
  generalize ((w.alloc (.cells #[.int .i64 0, .int .i64 0, .int .i64 1, .int .i64 1, .string ⟨#[47, 102]⟩, .string ⟨#[]⟩, .bool false, .bool false, .bool false, .int .i64 0, .int .i64 0, .int .i64 0, .slice none 0 0, .slice none 0 0] 36)).alloc (.cells #[.int .i64 0, .int .i64 0, .int .i64 0, .int .i64 0, .int .i64 0, .bool false, .slice none 0 0, .slice none 0 0] 29)) = w0 at *
  have ls := lt_of_block h.s
  generalize hb0 : w.heap.size = b0 at *
  have HB0 := Lib.hid hb0
  have c10 : w0.cell? ⟨L.s, 10, none⟩ = some (.pointer (some ⟨L.tk, 0, none⟩)) := by rw [cell_at a0.s]; rfl
  have d0 : w0.cell? ⟨b0, 0, none⟩ = some (.int .i64 0) := by rw [cell_at k0]; rfl
  have A0 := Lib.hid a0
  have K0 := Lib.hid k0
  have K1 := Lib.hid k1
  have HX := Lib.hid (And.intro hrow (And.intro h0 (And.intro h1 (And.intro h2 (And.intro hf h3)))))
  have H := Lib.hid h
  clear h hrow h0 h1 h2 hf h3 a0 k0 k1 hb0
  go_region_held3 (fun w' => w'.cell? ⟨L.s, 10, none⟩ = some (.pointer (some ⟨L.tk, 0, none⟩)) ∧ w'.cell? ⟨b0, 0, none⟩ = some (.int .i64 0)) (first | go_keep | (go_split_ands; refine ⟨?_, ?_⟩ <;> exact f1.cell_of (by assumption) id))
    ((go_at_call 111; refine (drop_none L.tk _ _ (A0.out.no (Fr.refl w0).drew).tk).mono ?_; rintro e w1 ⟨rfl, f1⟩))
  have F1 : Fr No w0 w1 := (Fr.refl w0).drew.trans f1 (fun _ _ e => e)
  have A1 := Lib.hid (A0.out.no F1)
  have d0 : w1.cell? ⟨b0, 0, none⟩ = some (.int .i64 0) := F1.cell_of (by rw [cell_at K0.out]; rfl) id
  have c3 : w1.cell? ⟨L.s, 3, none⟩ = some (.int .i64 0) := by rw [cell_at A1.out.s]; rfl
  have z3 := frozen_at A1.out.s 3
  clear c10
  go_wp2_with fail
  go_region
  have F2 : Fr (fun k => k = L.s) w1 (w1.setCell ⟨L.s, 3, none⟩ (.int .i64 0)).drew := (Fr.setCell (S := fun k => k = L.s) (p := ⟨L.s, 3, none⟩) (Fr.refl w1) (.inl rfl) _).drew
  have z : (w1.setCell ⟨L.s, 3, none⟩ (.int .i64 0)).heap[L.s]? = some (.cells #[.int .i64 0, .int .i64 0, .int .i64 C.clock, .int .i64 0, .int .i64 0, .int .i64 0, .int .i64 0, .int .i64 0, .pointer (some ⟨L.win, 0, none⟩), .pointer (some ⟨L.tr, 0, none⟩), .pointer (some ⟨L.tk, 0, none⟩), .map (some L.fl), .map (some L.us)] 104 (0, 0)) := by simpa using setCell_at A1.out.s 3 (.int .i64 0)
  have A2 := A1.out.fr (C' := C) F2 z rfl rfl rfl rfl rfl rfl rfl
  have K2 := F2.block_of (F1.block_of K0.out id) (by omega)
  have K21 := F2.block_of (F1.block_of K1.out id) (by omega)
  have hs2 := F2.size
  have hs1 := F1.size
  generalize (w1.setCell ⟨L.s, 3, none⟩ (.int .i64 0)).drew = w2 at *
  have c2 : w2.cell? ⟨L.s, 2, none⟩ = some (.int .i64 C.clock) := by rw [cell_at A2.s]; rfl
  have z2 := frozen_at A2.s 2
  obtain ⟨hc1, hc2⟩ := hcl
  have F3 : Fr (fun k => k = L.s) w2 (w2.setCell ⟨L.s, 2, none⟩ (.int .i64 (C.clock + 1))) := Fr.setCell (S := fun k => k = L.s) (p := ⟨L.s, 2, none⟩) (Fr.refl w2) (.inl rfl) _
  have A3 := Lib.hid (A2.fr (C' := tick C) F3 (by simpa [tick] using setCell_at A2.s 2 (.int .i64 (C.clock + 1))) rfl rfl rfl rfl rfl rfl rfl)
  have K3 := Lib.hid (F3.block_of K2 (by omega))
  have K31 := Lib.hid (F3.block_of K21 (by omega))
  have HF3 := Lib.hid F3
  have HF2 := Lib.hid F2
  clear d0 c3 z3 A2 K2 K21 F2 F3
  have hsz3 := HF3.out.size
  have HT := Lib.hid (tried_new _ L (tick C) 1 A3.out hsz HX.out.2.1 HX.out.2.2.1 HX.out.2.2.2.1 HX.out.2.2.2.2.1 HX.out.2.2.2.2.2)
  unfold req rep at HT
  go_wp2_with (refine wpList_load_row rfl 36 (.tmp 6) rfl b0 rfl 36 #[.int .i64 0, .int .i64 0, .int .i64 1, .int .i64 1, .string ⟨#[47, 102]⟩, .string ⟨#[]⟩, .bool false, .bool false, .bool false, .int .i64 0, .int .i64 0, .int .i64 0, .slice none 0 0, .slice none 0 0] (0, 0) _ K3.out Tryz.underlying36 rfl Tryz.size36 ?_)
  with_reducible refine HT.out.mono ?_
  rintro e w4 ⟨x, m, rfl, F4, a4⟩
  have A4 := Lib.hid a4
  clear a4 HT
  have hs4 := F4.size
  have q1 := lt_of_block A3.out.th
  have q2 := lt_of_block A3.out.rin
  have q3 := lt_of_block A3.out.fl
  have f5 : Fr No w4 (w4.alloc (.cells #[.int .i64 0, .int .i64 2, .int .i64 0, .int .i64 0, .int .i64 0, .bool false, .slice none 0 0, .slice none 0 0] 29)) := (Fr.refl w4).alloc _
  have c1 : (w4.alloc (.cells #[.int .i64 0, .int .i64 2, .int .i64 0, .int .i64 0, .int .i64 0, .bool false, .slice none 0 0, .slice none 0 0] 29)).cell? ⟨L.s, 1, none⟩ = some (.int .i64 0) := f5.cell_of (by rw [cell_at A4.out.s]; rfl) id
  have k5 := new_at w4 (.cells #[.int .i64 0, .int .i64 2, .int .i64 0, .int .i64 0, .int .i64 0, .bool false, .slice none 0 0, .slice none 0 0] 29)
  have z5 := frozen_at k5 4
  have F5 := Lib.hid f5
  have K5 := Lib.hid k5
  clear f5 k5
  have HE : Hid (Calls Tryz.prog 112 #[.agg #[.int .i64 0, .int .i64 2, .int .i64 0, .int .i64 0, .int .i64 0, .bool false, .slice none 0 0, .slice none 0 0]] (w4.alloc (.cells #[.int .i64 0, .int .i64 2, .int .i64 0, .int .i64 0, .int .i64 0, .bool false, .slice none 0 0, .slice none 0 0] 29)) fun x w' => ∃ v b c, x = .returned (.tuple #[v, .int .i64 0]) ∧ SlIs w' v (repB 0 2) b 0 c ∧ (w4.alloc (.cells #[.int .i64 0, .int .i64 2, .int .i64 0, .int .i64 0, .int .i64 0, .bool false, .slice none 0 0, .slice none 0 0] 29)).heap.size ≤ b ∧ Fr No (w4.alloc (.cells #[.int .i64 0, .int .i64 2, .int .i64 0, .int .i64 0, .int .i64 0, .bool false, .slice none 0 0, .slice none 0 0] 29)) w') := Lib.hid (encode_ 0 2 (by omega) (by omega) _)
  go_wp2_with fail
  with_reducible refine HE.out.mono ?_
  rintro e w6 ⟨v, b, c, rfl, sl, hb6, F6⟩
  have A6 := Lib.hid ((A4.out.no F5.out).no F6)
  obtain ⟨rfl, sl2⟩ := sl
  have SL := Lib.hid sl2
  clear sl2 HE
  go_wp2_with fail
  have F06 : Fr No w4 w6 := F5.out.trans F6 (fun _ _ e => e)
  have K6 := Lib.hid (F06.block_of (F4.block_of K3.out (A3.out.noFile K3.out)) id)
  have K61 := Lib.hid (F06.block_of (F4.block_of K31.out (A3.out.noFile K31.out)) id)
  have x0 : w6.cell? ⟨b0, 0, none⟩ = some (.int .i64 0) := by rw [cell_at K6.out]; rfl
  have x1 : w6.cell? ⟨b0, 1, none⟩ = some (.int .i64 0) := by rw [cell_at K6.out]; rfl
  have x2 : w6.cell? ⟨b0, 2, none⟩ = some (.int .i64 1) := by rw [cell_at K6.out]; rfl
  have c8 : w6.cell? ⟨L.s, 8, none⟩ = some (.pointer (some ⟨L.win, 0, none⟩)) := by rw [cell_at A6.out.s]; rfl
  have HC := Lib.hid (And.intro SL.out.1 (And.intro SL.out.2.1 SL.out.2.2))
  have hlen : (repB 0 2).length = 14 := rfl
  have HLN := Lib.hid hlen
  have nb : b0 ≠ L.win := by intro e; have := K6.out; rw [e, A6.out.win] at this; simp at this
  have nb1 : b0 + 1 ≠ L.win := by intro e; have := K61.out; rw [e, A6.out.win] at this; simp at this
  have NB := Lib.hid nb
  have NB1 := Lib.hid nb1
  have NS := Lib.hid (A6.out.nes.1.symm)
  clear nb nb1
  have HD := Lib.hid (done_ L.win (.pointer none) 1 3 (repB 0 2) b c w6.drew (by have := (A6.out.no (Fr.refl w6).drew).win; rw [show ((tick C).file x m).row = .pointer none from HX.out.1] at this; exact this) ⟨rfl, SL.out.1, SL.out.2.1, fun j y hj => (Fr.refl (S := No) w6).drew.cell_of (SL.out.2.2 j y hj) id⟩ (by rw [HLN.out]; omega) rfl rfl (fun w' hw' _ => ask_new L.win 1 w' (by omega) (by omega) hw'))
  clear c1 z5 c2 z2 hlen
  go_region_held3 (fun w' => w'.cell? ⟨b0, 0, none⟩ = some (.int .i64 0) ∧ w'.cell? ⟨b0, 1, none⟩ = some (.int .i64 0) ∧ w'.cell? ⟨b0, 2, none⟩ = some (.int .i64 1) ∧ w'.cell? ⟨L.s, 8, none⟩ = some (.pointer (some ⟨L.win, 0, none⟩))) (first | go_keep | (go_split_ands; refine ⟨?_, ?_, ?_, ?_⟩ <;> exact F7.cell_of (by assumption) (by first | exact NB.out | exact NS.out)))
    ((go_at_call 113; refine HD.out.mono ?_; rintro e w7 ⟨r, v7, b7, c7, rfl, hw7, hr7, sl7, F7⟩))
  have F67 : Fr (fun k => k = L.win) w6 w7 := (Fr.refl w6).drew.trans F7 (fun _ _ e => e)
  have a7 := A6.out.rowed r F67 hw7
  have N9 : w4.heap.size ≠ L.win := by intro e; have := F6.block_of K5.out id; rw [e, A6.out.win] at this; simp at this
  have K9 := Lib.hid (F67.block_of (F6.block_of K5.out id) N9)
  have K71 := Lib.hid (F67.block_of K61.out NB1.out)
  have HOC := Lib.hid (show (#[.int .i64 0, .int .i64 2, .int .i64 0, .int .i64 0, .int .i64 0, .bool false, .slice none 0 0, .slice none 0 0] : Array Value).all (·.oneCell') = true from by simp [Value.oneCell'])
  have A7 := Lib.hid a7
  have SL7 := Lib.hid sl7
  have R7 := Lib.hid hr7
  have b1 : b0 + 1 < w7.heap.size := lt_of_block K71.out
  clear a7 sl7 hr7 hw7 N9
  go_wp2_with (first | (refine wpList_load_row rfl 29 (.tmp 9) rfl w4.heap.size rfl 29 #[.int .i64 0, .int .i64 2, .int .i64 0, .int .i64 0, .int .i64 0, .bool false, .slice none 0 0, .slice none 0 0] (0, 0) _ K9.out Tryz.underlying29 rfl Tryz.size29 ?_) | (refine wpList_store_row rfl 29 (.tmp 8) (.tmp 61) rfl (b0 + 1) #[.int .i64 0, .int .i64 2, .int .i64 0, .int .i64 0, .int .i64 0, .bool false, .slice none 0 0, .slice none 0 0] rfl rfl 29 _ K71.out Tryz.size29 rfl HOC.out ?_))
  have KF := setRow_at (cs' := #[.int .i64 0, .int .i64 2, .int .i64 0, .int .i64 0, .int .i64 0, .bool false, .slice none 0 0, .slice none 0 0]) K71.out
  have FX : Fr (fun k => k = b0 + 1) w7 (w7.setRow (b0 + 1) #[.int .i64 0, .int .i64 2, .int .i64 0, .int .i64 0, .int .i64 0, .bool false, .slice none 0 0, .slice none 0 0]) := Fr.setRow (S := fun k => k = b0 + 1) (Fr.refl w7) (.inl rfl) #[.int .i64 0, .int .i64 2, .int .i64 0, .int .i64 0, .int .i64 0, .bool false, .slice none 0 0, .slice none 0 0]
  have AF := A7.out.far K71.out FX
  have RF := FX.block_of R7.out (by intro e; have := R7.out; rw [e, K71.out] at this; simp at this)
  have hne : b7 ≠ b0 + 1 := by
    intro e
    have := SL7.out.2.2.2 0 0 rfl
    rw [e, cell_at K71.out] at this
    simp at this
  have FZ : Fr (Turn L) w (w7.setRow (b0 + 1) #[.int .i64 0, .int .i64 2, .int .i64 0, .int .i64 0, .int .i64 0, .bool false, .slice none 0 0, .slice none 0 0]) := by
    have hb := HB0.out
    exact (((((((f0.of_no (S := Turn L)).trans F1 (fun _ _ e => e.elim)).trans HF2.out (fun _ _ e => .inl e)).trans HF3.out (fun _ _ e => .inl e)).trans F4 (fun _ _ e => .inr (.inr e))).trans F06 (fun _ _ e => e.elim)).trans F67 (fun _ _ e => .inr (.inl e))).trans FX (fun j hj e => by omega)
  exact bodyPost_ret (v := .agg #[.int .i64 0, .int .i64 2, .int .i64 0, .int .i64 0, .int .i64 0, .bool false, .slice none 0 0, .slice none 0 0]) (results_cell_row rfl _ _ (b0 + 1) 29 _ (0, 0) _ rfl KF Tryz.underlying29 rfl Tryz.size29) rfl ⟨x, m, r, v7, b7, c7, rfl, AF, RF, ⟨SL7.out.1, SL7.out.2.1, Nat.lt_of_lt_of_le SL7.out.2.2.1 FX.size, fun j y hj => FX.cell_of (SL7.out.2.2.2 j y hj) hne⟩, FZ⟩
end Go.Proofs.YtlcojhddnpmgmaaGreat
