/- The state's make of a new file. Walked. -/
import Derived.Test.YtlcojhddnpmgmaaGreatG
import Derived.Deep.RegionWith
import Derived.Laws.Tables
import Derived.Laws.Rows
namespace Go.Proofs.YtlcojhddnpmgmaaGreat
open Go.RowKit

def Files (L : Loc) (k : Nat) : Prop := k = L.th ∨ k = L.rin ∨ k = L.fl
/-- what a state holds behind a new file. -/
def Con.file (C : Con) (x m : Nat) : Con := { C with ths := C.ths.push { key := .int .i64 2, val := .pointer (some ⟨x, 0, none⟩), born := C.tc }, tc := C.tc + 1, ins := C.ins.push { key := .string ⟨#[102]⟩, val := .int .i64 2, born := C.ic }, ic := C.ic + 1, fls := C.fls.push { key := .int .i64 2, val := .pointer (some ⟨m, 0, none⟩), born := C.fc }, fc := C.fc + 1 }

theorem ne_cells {w : World} {a b : Nat} {cs : Array Value} {t : TypeId} {fz : Nat × Nat} {es : Array MapEntry} {c : Nat} (hb : w.heap[b]? = some (.map es c)) (ha : w.heap[a]? = some (.cells cs t fz)) : a ≠ b := ne_map ha hb

theorem Tryz.size29 : (Tryz.prog.info? 29).map (·.size) = some 8 := by kernel_rfl
theorem blocks_new' (w : World) : Calls Tryz.prog 132 #[] w fun e w' => e = .returned (.pointer (some ⟨w.heap.size, 0, none⟩)) ∧ Fr No w w' ∧ w'.heap[w.heap.size]? = some (.cells #[.bool true, .int .i64 0, .slice none 0 0] 135 (0, 0)) := by
  refine (blocks_new w).mono ?_
  rintro e w' ⟨rfl, rfl⟩
  exact ⟨rfl, (Fr.refl w).alloc _, new_at w _⟩

set_option maxRecDepth 100000 in
set_option maxHeartbeats 3200000 in
theorem smake_new (w : World) (L : Loc) (C : Con) (n : Int) (h : At w L C) (hsz : C.ths.size < 128) (h0 : Instr.findNow (.int .i64) (.int .i64 1) C.ths.toList 0 = some (some (0, .pointer (some ⟨L.root, 0, none⟩))))
    (h1 : ∀ x : Nat, Instr.findNow (.int .i64) (.int .i64 1) (C.ths.push { key := .int .i64 2, val := .pointer (some ⟨x, 0, none⟩), born := C.tc }).toList 0 = some (some (0, .pointer (some ⟨L.root, 0, none⟩))))
    (h2 : Instr.findNow (.int .i64) (.int .i64 2) C.ths.toList 0 = some none) (hf : Instr.findNow .string (.string ⟨#[102]⟩) C.ins.toList 0 = some none) (h3 : Instr.findNow (.int .i64) (.int .i64 2) C.fls.toList 0 = some none) :
    Calls Tryz.prog 82 #[.pointer (some ⟨L.s, 0, none⟩), .agg (req n 1 ⟨#[47, 102]⟩)] w fun e w' => ∃ x m : Nat, e = .returned (.agg (rep 0 2)) ∧ Fr (Files L) w w' ∧ At w' L (C.file x m) := by
  have f0 : Fr No w ((w.alloc (.cells (req n 1 ⟨#[47, 102]⟩) 36)).alloc (.cells (rep 0 0) 29)) := ((Fr.refl w).alloc _).alloc _
  have k0 : ((w.alloc (.cells (req n 1 ⟨#[47, 102]⟩) 36)).alloc (.cells (rep 0 0) 29)).heap[w.heap.size]? = some (.cells (req n 1 ⟨#[47, 102]⟩) 36 (0, 0)) := ((Fr.refl (S := No) _).alloc _).block_of (new_at w _) id
  have k1 : ((w.alloc (.cells (req n 1 ⟨#[47, 102]⟩) 36)).alloc (.cells (rep 0 0) 29)).heap[w.heap.size + 1]? = some (.cells (rep 0 0) 29 (0, 0)) := by simpa using new_at (w.alloc (.cells (req n 1 ⟨#[47, 102]⟩) 36)) (.cells (rep 0 0) 29)
  have a0 := h.no f0
  have H0 := Lib.hid h
  have lw := lt_of_block h.s
  have lth := lt_of_block h.th
  have lri := lt_of_block h.rin
  have lfl := lt_of_block h.fl
  unfold req rep at *
  go_enter Tryz.func82, Tryz.ntmps82
  go_wp2_with fail
  generalize ((w.alloc (.cells #[.int .i64 0, .int .i64 0, .int .i64 n, .int .i64 1, .string ⟨#[47, 102]⟩, .string ⟨#[]⟩, .bool false, .bool false, .bool false, .int .i64 0, .int .i64 0, .int .i64 0, .slice none 0 0, .slice none 0 0] 36)).alloc (.cells #[.int .i64 0, .int .i64 0, .int .i64 0, .int .i64 0, .int .i64 0, .bool false, .slice none 0 0, .slice none 0 0] 29)) = w0 at *
  generalize hb0 : w.heap.size = b0 at *
  have HB0 := Lib.hid hb0
  have c5 : w0.cell? ⟨L.s, 9, none⟩ = some (.pointer (some ⟨L.tr, 0, none⟩)) := by rw [cell_at a0.s]; rfl
  have d4 : w0.cell? ⟨b0, 4, none⟩ = some (.string ⟨#[47, 102]⟩) := by rw [cell_at k0]; rfl
  have d6 : w0.cell? ⟨b0, 6, none⟩ = some (.bool false) := by rw [cell_at k0]; rfl
  have T := Lib.hid (a0.tree h0)
  have A0 := Lib.hid a0
  have K0 := Lib.hid k0
  have K1 := Lib.hid k1
  have HF := Lib.hid hf
  have H1 := Lib.hid h1
  have H2 := Lib.hid h2
  have H3 := Lib.hid h3
  have ns := ne_cells a0.th a0.s
  have ns2 := ne_cells a0.rin a0.s
  clear h h0 h1 h2 h3 a0 k0 k1 hf hb0
  go_region_held3 (fun w' => w'.cell? ⟨L.s, 9, none⟩ = some (.pointer (some ⟨L.tr, 0, none⟩)) ∧ w'.cell? ⟨b0, 4, none⟩ = some (.string ⟨#[47, 102]⟩) ∧ w'.cell? ⟨b0, 6, none⟩ = some (.bool false)) (first | go_keep | (go_split_ands; refine ⟨?_, ?_, ?_⟩ <;> exact f1.cell_of (by assumption) (by dsimp only; omega)))
    ((go_at_call 131; refine (make_new _ (T.out.no (Fr.refl _).drew) A0.out.ne.1 hsz H2.out H1.out HF.out).mono ?_; rintro e w1 ⟨x, rfl, f1, t1⟩))
  have F1 : Fr (fun k => k = L.th ∨ k = L.rin) w0 w1 := (Fr.refl (S := fun k => k = L.th ∨ k = L.rin) w0).drew.trans f1 (fun _ _ e => e)
  have T1 := Lib.hid t1
  clear t1 f1 c5 d4
  have d6 : w1.cell? ⟨b0, 6, none⟩ = some (.bool false) := by rw [cell_at (F1.block_of K0.out (by omega))]; rfl
  go_wp2_with fail
  refine (must_yes _ _).mono ?_
  rintro e w2 ⟨rfl, rfl⟩
  go_wp2_with fail
  have kf := F1.block_of A0.out.fl (by have := A0.out.ne; omega)
  have KF := Lib.hid (show w2.drew.heap[L.fl]? = some (.map C.fls C.fc) from kf)
  have hs2 := F1.size
  have c11 : w2.cell? ⟨L.s, 11, none⟩ = some (.map (some L.fl)) := by rw [cell_at (F1.block_of A0.out.s (by omega))]; rfl
  have ns3 : L.s ≠ L.fl := ne_cells A0.out.fl A0.out.s
  clear kf d6
  go_region_held3 (fun w' => w'.cell? ⟨L.s, 11, none⟩ = some (.map (some L.fl))) (first | go_keep | exact f5.cell_of (by assumption) id | exact f6.cell_of (by assumption) (by dsimp only; omega))
    ((go_at_call 132; refine (blocks_new' _).mono ?_; rintro e w5 ⟨rfl, f5, k5⟩; obtain ⟨w6, hu, f6, k6⟩ := map_add (P := Tryz.prog) 100 3 63 L.fl C.fc C.fls (.int .i64 2) (.pointer (some ⟨w2.heap.size, 0, none⟩)) Tryz.underlying100 Tryz.underlying3 (by simp [MapKept.IsKey]) (f5.block_of KF.out id) H3.out))
  have A6 : At w6 L (C.file x w2.heap.size) := by
    have n := A0.out.ne
    have g1 : Fr (fun k => k = L.fl) w2 w6 := ((Fr.refl (S := fun k => k = L.fl) w2).drew.trans f5.of_no (fun _ _ e => e)).trans f6 (fun _ _ e => e)
    have m1 := ne_cells A0.out.fl A0.out.win
    have m2 := ne_cells A0.out.fl A0.out.tr
    have m3 := ne_cells A0.out.fl A0.out.tk
    have m4 := ne_cells A0.out.fl A0.out.root
    have m5 := ne_cells A0.out.th A0.out.win
    have m6 := ne_cells A0.out.rin A0.out.win
    have m7 := ne_cells A0.out.th A0.out.tk
    have m8 := ne_cells A0.out.rin A0.out.tk
    exact ⟨g1.block_of (F1.block_of A0.out.s (by omega)) ns3, g1.block_of (F1.block_of A0.out.win (by omega)) m1, g1.block_of T1.out.ktr m2, g1.block_of (F1.block_of A0.out.tk (by omega)) m3, g1.block_of T1.out.kth (by omega), g1.block_of T1.out.kroot m4, g1.block_of T1.out.krin (by omega), k6, n⟩
  have K6 := Lib.hid (f6.block_of (f5.block_of ((Fr.refl (S := No) w2).drew.block_of (F1.block_of K1.out (by omega)) id) id) (by omega))
  have FX := Lib.hid (show Fr (Files L) w w6 from
    ((((f0.of_no (S := Files L)).trans F1 (fun _ _ e => by rcases e with e | e; exact .inl e; exact .inr (.inl e))).drew).trans f5 (fun _ _ e => e.elim)).trans f6 (fun _ _ e => .inr (.inr e)))
  have HA6 := Lib.hid A6
  have HOC := Lib.hid (show (#[.int .i64 0, .int .i64 2, .int .i64 0, .int .i64 0, .int .i64 0, .bool false, .slice none 0 0, .slice none 0 0] : Array Value).all (·.oneCell') = true from by simp [Value.oneCell'])
  have hs0 := f0.size
  clear A6 k6 hu f5 f6 k5 c11
  go_wp2_with (refine wpList_store_row rfl 29 (.tmp 4) (.tmp 33) rfl (b0 + 1) #[.int .i64 0, .int .i64 2, .int .i64 0, .int .i64 0, .int .i64 0, .bool false, .slice none 0 0, .slice none 0 0] rfl rfl 29 _ K6.out Tryz.size29 rfl HOC.out ?_)
  have K7 := setRow_at (cs' := #[.int .i64 0, .int .i64 2, .int .i64 0, .int .i64 0, .int .i64 0, .bool false, .slice none 0 0, .slice none 0 0]) K6.out
  have FY := FX.out.setRow (g := b0 + 1) (.inr (by have := HB0.out; omega)) #[.int .i64 0, .int .i64 2, .int .i64 0, .int .i64 0, .int .i64 0, .bool false, .slice none 0 0, .slice none 0 0]
  have G7 : Fr (fun k => k = b0 + 1) w6 (w6.setRow (b0 + 1) #[.int .i64 0, .int .i64 2, .int .i64 0, .int .i64 0, .int .i64 0, .bool false, .slice none 0 0, .slice none 0 0]) := Fr.setRow (S := fun k => k = b0 + 1) (Fr.refl w6) (.inl rfl) _
  have A7 : At (w6.setRow (b0 + 1) #[.int .i64 0, .int .i64 2, .int .i64 0, .int .i64 0, .int .i64 0, .bool false, .slice none 0 0, .slice none 0 0]) L (C.file x w2.heap.size) := by
    have q := HA6.out
    have nb : ∀ k o, w6.heap[k]? = some o → k < b0 → (w6.setRow (b0 + 1) #[.int .i64 0, .int .i64 2, .int .i64 0, .int .i64 0, .int .i64 0, .bool false, .slice none 0 0, .slice none 0 0]).heap[k]? = some o := fun k o hk hlt => G7.block_of hk (by omega)
    have e0 := HB0.out
    have p := H0.out
    have l1 := lt_of_block p.s
    have l2 := lt_of_block p.win
    have l3 := lt_of_block p.tr
    have l4 := lt_of_block p.tk
    have l5 := lt_of_block p.th
    have l6 := lt_of_block p.root
    have l7 := lt_of_block p.rin
    have l8 := lt_of_block p.fl
    exact ⟨nb _ _ q.s (by omega), nb _ _ q.win (by omega), nb _ _ q.tr (by omega), nb _ _ q.tk (by omega), nb _ _ q.th (by omega), nb _ _ q.root (by omega), nb _ _ q.rin (by omega), nb _ _ q.fl (by omega), q.ne⟩
  go_wp2_with fail
  exact bodyPost_ret (v := .agg #[.int .i64 0, .int .i64 2, .int .i64 0, .int .i64 0, .int .i64 0, .bool false, .slice none 0 0, .slice none 0 0]) (results_cell_row rfl _ _ (b0 + 1) 29 _ (0, 0) _ rfl K7 Tryz.underlying29 rfl Tryz.size29) rfl ⟨x, w2.heap.size, rfl, FY, A7⟩
end Go.Proofs.YtlcojhddnpmgmaaGreat
