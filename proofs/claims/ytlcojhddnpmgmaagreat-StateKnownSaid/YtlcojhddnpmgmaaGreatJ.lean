/- A deed that is tried, walked. -/
import Derived.Test.YtlcojhddnpmgmaaGreatI
import Derived.Outline
namespace Go.Proofs.YtlcojhddnpmgmaaGreat
open Go.RowKit

theorem rows8 {w : World} {b : Nat} {t : TypeId} {a0 a1 a2 a3 a4 a5 a6 a7 : Value} (h : w.heap[b]? = some (.cells #[a0, a1, a2, a3, a4, a5, a6, a7] t (0, 0))) :
    w.cell? ⟨b, 0, none⟩ = some a0 ∧ w.cell? ⟨b, 1, none⟩ = some a1 ∧ w.cell? ⟨b, 2, none⟩ = some a2 ∧ w.cell? ⟨b, 3, none⟩ = some a3 ∧ w.cell? ⟨b, 4, none⟩ = some a4 ∧ w.cell? ⟨b, 5, none⟩ = some a5 ∧ w.cell? ⟨b, 6, none⟩ = some a6 ∧ w.cell? ⟨b, 7, none⟩ = some a7 := by
  refine ⟨?_, ?_, ?_, ?_, ?_, ?_, ?_, ?_⟩ <;> (rw [cell_at h]; rfl)
theorem req_load (n kind : Int) (path : ByteArray) : (req n kind path).size = 14 := rfl

set_option maxRecDepth 100000 in
set_option maxHeartbeats 1600000 in
theorem tried_there (w : World) (L : Loc) (C : Con) (n : Int) (v : Value) (i : Nat) (h : At w L C) (h1 : Instr.findNow (.int .i64) (.int .i64 1) C.ths.toList 0 = some (some (0, .pointer (some ⟨L.root, 0, none⟩)))) (hf : Instr.findNow .string (.string ⟨#[102]⟩) C.ins.toList 0 = some (some (i, v))) :
    Calls Tryz.prog 49 #[.pointer (some ⟨L.s, 0, none⟩), .func (Fn.func 82) #[] #[], .agg (req n 1 ⟨#[47, 102]⟩)] w fun e w' => e = .returned (.agg (rep 7 0)) ∧ Fr No w w' := by
  have hmf : ∀ (fn : Fn) (first cap : Array Value) (w : World), (Instr.makeFunc fn first cap).run Tryz.prog w = .ok (.func fn first cap) w := fun _ _ _ _ => rfl
  have f0 : Fr No w ((w.alloc (.cells (req n 1 ⟨#[47, 102]⟩) 36)).alloc (.cells (rep 0 0) 29)) := ((Fr.refl w).alloc _).alloc _
  have k0 : ((w.alloc (.cells (req n 1 ⟨#[47, 102]⟩) 36)).alloc (.cells (rep 0 0) 29)).heap[w.heap.size]? = some (.cells (req n 1 ⟨#[47, 102]⟩) 36 (0, 0)) := ((Fr.refl (S := No) _).alloc _).block_of (new_at w _) id
  have k1 : ((w.alloc (.cells (req n 1 ⟨#[47, 102]⟩) 36)).alloc (.cells (rep 0 0) 29)).heap[w.heap.size + 1]? = some (.cells (rep 0 0) 29 (0, 0)) := by simpa using new_at (w.alloc (.cells (req n 1 ⟨#[47, 102]⟩) 36)) (.cells (rep 0 0) 29)
  have hm := smake_there _ L C n v i (h.no f0) h1 hf
  have HM := Lib.hid hm
  have K0 := Lib.hid k0
  have K1 := Lib.hid k1
  have F0 := Lib.hid f0
  clear hm k0 k1 f0 h h1 hf
  unfold req rep at *
  go_enter_defers Tryz.func49, Tryz.ntmps49
  go_wp2_with fail
  with_reducible refine HM.out.mono ?_
  rintro e w1 ⟨rfl, f1⟩
  refine leaves_cons (f := 90) (args := #[.pointer (some ⟨w.heap.size + 1, 0, none⟩)]) (by simp) (by simp [go_sem]) ?_
  refine (catch_ref (w.heap.size + 1) 7 w1 _ (f1.block_of K1.out id) rfl).mono ?_
  rintro e u' w5 ⟨rfl, rfl, f5, k5⟩
  have F5 : Fr No w w5 := (F0.out.trans f1 (fun _ _ e => e)).of_no.trans f5 (fun j hj e => by omega) |>.no (S := No) (fun _ _ e => e)
  obtain ⟨c0, c1, c2, c3, c4, c5, c6, c7⟩ := rows8 k5
  simp [Leaves, settle, results, Tryz.results49, go_sem, c0, c1, c2, c3, c4, c5, c6, c7]
  exact F5

set_option maxRecDepth 100000 in
set_option maxHeartbeats 1600000 in
theorem tried_new (w : World) (L : Loc) (C : Con) (n : Int) (h : At w L C) (hsz : C.ths.size < 128) (h0 : Instr.findNow (.int .i64) (.int .i64 1) C.ths.toList 0 = some (some (0, .pointer (some ⟨L.root, 0, none⟩))))
    (h1 : ∀ x : Nat, Instr.findNow (.int .i64) (.int .i64 1) (C.ths.push { key := .int .i64 2, val := .pointer (some ⟨x, 0, none⟩), born := C.tc }).toList 0 = some (some (0, .pointer (some ⟨L.root, 0, none⟩))))
    (h2 : Instr.findNow (.int .i64) (.int .i64 2) C.ths.toList 0 = some none) (hf : Instr.findNow .string (.string ⟨#[102]⟩) C.ins.toList 0 = some none) (h3 : Instr.findNow (.int .i64) (.int .i64 2) C.fls.toList 0 = some none) :
    Calls Tryz.prog 49 #[.pointer (some ⟨L.s, 0, none⟩), .func (Fn.func 82) #[] #[], .agg (req n 1 ⟨#[47, 102]⟩)] w fun e w' => ∃ x m : Nat, e = .returned (.agg (rep 0 2)) ∧ Fr (Files L) w w' ∧ At w' L (C.file x m) := by
  have hmf : ∀ (fn : Fn) (first cap : Array Value) (w : World), (Instr.makeFunc fn first cap).run Tryz.prog w = .ok (.func fn first cap) w := fun _ _ _ _ => rfl
  have f0 : Fr No w ((w.alloc (.cells (req n 1 ⟨#[47, 102]⟩) 36)).alloc (.cells (rep 0 0) 29)) := ((Fr.refl w).alloc _).alloc _
  have k1 : ((w.alloc (.cells (req n 1 ⟨#[47, 102]⟩) 36)).alloc (.cells (rep 0 0) 29)).heap[w.heap.size + 1]? = some (.cells (rep 0 0) 29 (0, 0)) := by simpa using new_at (w.alloc (.cells (req n 1 ⟨#[47, 102]⟩) 36)) (.cells (rep 0 0) 29)
  have HM := Lib.hid (smake_new _ L C n (h.no f0) hsz h0 h1 h2 hf h3)
  have K1 := Lib.hid k1
  have F0 := Lib.hid f0
  have l1 := lt_of_block h.th
  have l2 := lt_of_block h.rin
  have l3 := lt_of_block h.fl
  have ln : ∀ k, Files L k → k < w.heap.size := fun k e => by rcases e with e | e | e <;> omega
  have LN := Lib.hid ln
  have H0 := Lib.hid h
  clear k1 f0 h h0 h1 h2 hf h3 ln l1 l2 l3
  unfold req rep at *
  go_enter_defers Tryz.func49, Tryz.ntmps49
  go_wp2_with fail
  with_reducible refine HM.out.mono ?_
  rintro e w1 ⟨x, m, rfl, f1, a1⟩
  have A1 := Lib.hid a1
  have K11 := Lib.hid (f1.block_of K1.out (fun e => by have := LN.out _ e; omega))
  have HOC := Lib.hid (show (#[.int .i64 0, .int .i64 2, .int .i64 0, .int .i64 0, .int .i64 0, .bool false, .slice none 0 0, .slice none 0 0] : Array Value).all (·.oneCell') = true from by simp [Value.oneCell'])
  clear a1
  go_wp2_with (refine wpList_store_row rfl 29 (.tmp 6) (.tmp 11) rfl (w.heap.size + 1) #[.int .i64 0, .int .i64 2, .int .i64 0, .int .i64 0, .int .i64 0, .bool false, .slice none 0 0, .slice none 0 0] rfl rfl 29 _ K11.out Tryz.size29 rfl HOC.out ?_)
  go_wp2_with fail
  refine leaves_cons (f := 90) (args := #[.pointer (some ⟨w.heap.size + 1, 0, none⟩)]) (by simp) (by simp [go_sem]) ?_
  refine (catch_idle ⟨w.heap.size + 1, 0, none⟩ _).mono ?_
  rintro e u' w5 ⟨rfl, rfl, hw5⟩
  have f5 : Fr (fun k => k = w.heap.size + 1) w1 w5 := hw5 ▸ (Fr.setRow (S := fun k => k = w.heap.size + 1) (Fr.refl w1) (.inl rfl) #[.int .i64 0, .int .i64 2, .int .i64 0, .int .i64 0, .int .i64 0, .bool false, .slice none 0 0, .slice none 0 0]).alloc _
  have k5 : w5.heap[w.heap.size + 1]? = some (.cells #[.int .i64 0, .int .i64 2, .int .i64 0, .int .i64 0, .int .i64 0, .bool false, .slice none 0 0, .slice none 0 0] 29 (0, 0)) := by
    rw [hw5]
    exact ((Fr.refl (S := No) _).alloc _).block_of (setRow_at K11.out) id
  have F5 : Fr (Files L) w w5 := ((F0.out.of_no (S := Files L)).trans f1 (fun _ _ e => e)).trans f5 (fun j hj e => by omega)
  have A5 : At w5 L (C.file x m) := by
    have q := A1.out
    have p := H0.out
    have l1 := lt_of_block p.s
    have l2 := lt_of_block p.win
    have l3 := lt_of_block p.tr
    have l4 := lt_of_block p.tk
    have l5 := lt_of_block p.th
    have l6 := lt_of_block p.root
    have l7 := lt_of_block p.rin
    have l8 := lt_of_block p.fl
    exact ⟨f5.block_of q.s (by omega), f5.block_of q.win (by omega), f5.block_of q.tr (by omega), f5.block_of q.tk (by omega), f5.block_of q.th (by omega), f5.block_of q.root (by omega), f5.block_of q.rin (by omega), f5.block_of q.fl (by omega), q.ne⟩
  obtain ⟨c0, c1, c2, c3, c4, c5, c6, c7⟩ := rows8 k5
  simp [Leaves, settle, results, Tryz.results49, go_sem, c0, c1, c2, c3, c4, c5, c6, c7]
  exact ⟨F5, x, m, A5⟩
end Go.Proofs.YtlcojhddnpmgmaaGreat
