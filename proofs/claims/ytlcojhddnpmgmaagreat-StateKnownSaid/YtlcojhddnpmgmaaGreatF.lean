/- The tree's put and Make of a new file. Walked. -/
import Derived.Test.YtlcojhddnpmgmaaGreatE
namespace Go.Proofs.YtlcojhddnpmgmaaGreat
open Go.RowKit

theorem ne_map {w : World} {a b : Nat} {cs : Array Value} {t : TypeId} {fz : Nat × Nat} {es : Array MapEntry} {c : Nat} (ha : w.heap[a]? = some (.cells cs t fz)) (hb : w.heap[b]? = some (.map es c)) : a ≠ b := by
  rintro rfl
  rw [ha] at hb
  cases hb
theorem map_len {P : Program} {w : World} (t k e ty : TypeId) (r clock : Nat) (es : Array MapEntry) (ht : P.underlying t = some (.map k e)) (hb : w.heap[r]? = some (.map es clock)) : (Builtin.len_ #[t] ty #[.map (some r)]).run P w = .ok (.int .i64 es.size) w := by
  simp [Builtin.len_, run_underlying ht, MapKept.run_getObj_map hb, goInt]

section
variable {tr th root rin : Nat} {ths : Array MapEntry} {tc : Nat} {ins : Array MapEntry} {ic : Nat}
set_option maxRecDepth 100000 in
set_option maxHeartbeats 1600000 in
theorem put_ (w : World) (x : Nat) (hx : Made w x) (h : Tr w tr th root rin ths tc ins ic) (hne : th ≠ rin) (h2 : Instr.findNow (.int .i64) (.int .i64 2) ths.toList 0 = some none)
    (h1 : Instr.findNow (.int .i64) (.int .i64 1) (ths.push { key := .int .i64 2, val := .pointer (some ⟨x, 0, none⟩), born := tc }).toList 0 = some (some (0, .pointer (some ⟨root, 0, none⟩))))
    (hf : Instr.findNow .string (.string ⟨#[102]⟩) ins.toList 0 = some none) :
    Calls Tryz.prog 195 #[.pointer (some ⟨tr, 0, none⟩), .int .i64 1, .int .i64 2, .pointer (some ⟨x, 0, none⟩)] w fun e w' => e = .returned (.tuple #[]) ∧ Fr (fun k => k = th ∨ k = rin) w w' ∧
      Tr w' tr th root rin (ths.push { key := .int .i64 2, val := .pointer (some ⟨x, 0, none⟩), born := tc }) (tc + 1) (ins.push { key := .string ⟨#[102]⟩, val := .int .i64 2, born := ic }) (ic + 1) := by
  obtain ⟨c0, _, _⟩ := h.cells
  obtain ⟨w1, hu1, f1, k1⟩ := map_add (P := Tryz.prog) 130 3 142 th tc ths (.int .i64 2) (.pointer (some ⟨x, 0, none⟩)) Tryz.underlying130 Tryz.underlying3 (by simp [MapKept.IsKey]) h.kth h2
  have n1 := ne_map h.ktr h.kth
  have n2 := ne_map h.kroot h.kth
  have n3 := ne_map hx h.kth
  have n4 := ne_map h.ktr h.krin
  have n5 := ne_map h.kroot h.krin
  have t1 : Tr w1 tr th root rin (ths.push { key := .int .i64 2, val := .pointer (some ⟨x, 0, none⟩), born := tc }) (tc + 1) ins ic :=
    ⟨f1.block_of h.ktr (by omega), k1, f1.block_of h.kroot (by omega), f1.block_of h.krin (by omega), h1⟩
  have x1 : Made w1 x := f1.block_of hx (by omega)
  have t2 := t1.no (Fr.refl w1).drew
  obtain ⟨d0, d2, d3⟩ := t2.cells
  have dx : w1.drew.cell? ⟨x, 1, none⟩ = some (.string ⟨#[102]⟩) := by rw [cell_at ((Fr.refl (S := No) w1).drew.block_of x1 id)]; rfl
  have hl2 := t2.look
  obtain ⟨w2, hu2, f2, k2⟩ := map_add (P := Tryz.prog) 139 9 3 rin ic ins (.string ⟨#[102]⟩) (.int .i64 2) Tryz.underlying139 Tryz.underlying9 (by simp [MapKept.IsKey]) t2.krin hf
  have T := Lib.hid (show Tr w2 tr th root rin (ths.push { key := .int .i64 2, val := .pointer (some ⟨x, 0, none⟩), born := tc }) (tc + 1) (ins.push { key := .string ⟨#[102]⟩, val := .int .i64 2, born := ic }) (ic + 1) from
    ⟨f2.block_of t2.ktr (by omega), f2.block_of t2.kth (by omega), f2.block_of t2.kroot (by omega), k2, h1⟩)
  have F := Lib.hid (show Fr (fun k => k = th ∨ k = rin) w w2 from (f1.mono (fun _ _ e => .inl e)).drew.trans (f2.mono (fun _ _ e => .inr e)) (fun _ _ e => e))
  clear h hx t1 t2 x1 k1 k2 f1 f2 h2 h1 hf n1 n2 n3 n4 n5
  go_enter Tryz.func195, Tryz.ntmps195
  go_wp2_with fail
  go_region
  all_goals
    go_wp2_with fail
    go_end0
    exact ⟨rfl, F.out, T.out⟩

set_option maxRecDepth 100000 in
set_option maxHeartbeats 1600000 in
theorem make_new (w : World) (h : Tr w tr th root rin ths tc ins ic) (hne : th ≠ rin) (hsz : ths.size < 128) (h2 : Instr.findNow (.int .i64) (.int .i64 2) ths.toList 0 = some none)
    (h1 : ∀ x : Nat, Instr.findNow (.int .i64) (.int .i64 1) (ths.push { key := .int .i64 2, val := .pointer (some ⟨x, 0, none⟩), born := tc }).toList 0 = some (some (0, .pointer (some ⟨root, 0, none⟩))))
    (hf : Instr.findNow .string (.string ⟨#[102]⟩) ins.toList 0 = some none) :
    Calls Tryz.prog 131 #[.pointer (some ⟨tr, 0, none⟩), .string ⟨#[47, 102]⟩, .bool false] w fun e w' => ∃ x : Nat, e = .returned (.tuple #[.int .i64 2, .int .i64 0]) ∧ Fr (fun k => k = th ∨ k = rin) w w' ∧ 
      Tr w' tr th root rin (ths.push { key := .int .i64 2, val := .pointer (some ⟨x, 0, none⟩), born := tc }) (tc + 1) (ins.push { key := .string ⟨#[102]⟩, val := .int .i64 2, born := ic }) (ic + 1) := by
  have HH := Lib.hid h
  have HF := Lib.hid hf
  have H1 := Lib.hid h1
  have H2 := Lib.hid h2
  have HN := Lib.hid hne
  clear h hf h1 h2 hne
  go_enter Tryz.func131, Tryz.ntmps131
  go_wp2_with fail
  refine (tmade_ _ HH.out).mono ?_
  rintro e w1 ⟨rfl, rfl⟩
  go_wp2_with fail
  refine (place_f _ HH.out).mono ?_
  rintro e w2 ⟨rfl, f2⟩
  have g2 := HH.out.no f2
  obtain ⟨c0, c2, c3⟩ := g2.cells
  have hl := g2.look
  have hi := map_none (P := Tryz.prog) 139 9 3 rin ic ins (.string ⟨#[102]⟩) (.int .i64 0) Tryz.underlying139 Tryz.underlying9 (by simp [MapKept.IsKey]) g2.krin HF.out (by kernel_rfl) true
  simp only [if_true] at hi
  have ht := map_none (P := Tryz.prog) 130 3 142 th tc ths (.int .i64 2) (.pointer none) Tryz.underlying130 Tryz.underlying3 (by simp [MapKept.IsKey]) g2.kth H2.out (by kernel_rfl) false
  simp only [Bool.false_eq_true, if_false] at ht
  have hlen := fun ty => map_len (P := Tryz.prog) 130 3 142 ty th tc ths Tryz.underlying130 g2.kth
  have q1 : ¬ (128 : Int) ≤ (ths.size : Int) := by omega
  have G2 := Lib.hid g2
  clear g2
  go_wp2_with fail
  refine wp_loop_rounds 1 ?_; rw [rounds_succ]
  go_wp2_with fail
  have fa : Fr No w2 (w2.alloc (.cells #[.int .i64 1, .string ⟨#[102]⟩, .bool false, .map none] 141)) := (Fr.refl w2).alloc _
  refine (put_ _ w2.heap.size (new_at w2 (.cells #[.int .i64 1, .string ⟨#[102]⟩, .bool false, .map none] 141)) (G2.out.no fa) HN.out H2.out (H1.out _) HF.out).mono ?_
  rintro e w3 ⟨rfl, f3, t3⟩
  clear c0 c2 c3 hl hi ht hlen
  go_wp2_with fail
  go_ret2
  exact ⟨w2.heap.size, rfl, (f2.of_no.trans fa.of_no (fun _ _ e => e)).trans f3 (fun _ _ e => e), t3⟩
end
end Go.Proofs.YtlcojhddnpmgmaaGreat
