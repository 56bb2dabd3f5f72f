/- The tree: Look, place, put, Make at the path that the first sentence uses. Walked. -/
import Derived.Test.YtlcojhddnpmgmaaGreatD
namespace Go.Proofs.YtlcojhddnpmgmaaGreat
open Go.RowKit

/-- a tree whose root lies at root. -/
structure Tr (w : World) (tr th root rin : Nat) (ths : Array MapEntry) (tc : Nat) (ins : Array MapEntry) (ic : Nat) : Prop where
  ktr : w.heap[tr]? = some (.cells #[.map (some th)] 132 (0, 0))
  kth : w.heap[th]? = some (.map ths tc)
  kroot : w.heap[root]? = some (.cells #[.int .i64 0, .string ⟨#[]⟩, .bool true, .map (some rin)] 141 (0, 0))
  krin : w.heap[rin]? = some (.map ins ic)
  one : Instr.findNow (.int .i64) (.int .i64 1) ths.toList 0 = some (some (0, .pointer (some ⟨root, 0, none⟩)))
theorem Tr.no {w w' : World} {tr th root rin : Nat} {ths : Array MapEntry} {tc : Nat} {ins : Array MapEntry} {ic : Nat} (h : Tr w tr th root rin ths tc ins ic) (f : Fr No w w') : Tr w' tr th root rin ths tc ins ic :=
  ⟨f.block_of h.ktr id, f.block_of h.kth id, f.block_of h.kroot id, f.block_of h.krin id, h.one⟩
theorem Tr.look {w : World} {tr th root rin : Nat} {ths : Array MapEntry} {tc : Nat} {ins : Array MapEntry} {ic : Nat} (h : Tr w tr th root rin ths tc ins ic) : (Instr.lookup 130 (.map (some th)) (.int .i64 1) false).run Tryz.prog w = .ok (.pointer (some ⟨root, 0, none⟩)) w := by
  have := map_look (P := Tryz.prog) 130 3 142 th tc ths (.int .i64 1) _ 0 Tryz.underlying130 Tryz.underlying3 (by simp [MapKept.IsKey]) h.kth h.one false
  simpa using this
theorem Tr.cells {w : World} {tr th root rin : Nat} {ths : Array MapEntry} {tc : Nat} {ins : Array MapEntry} {ic : Nat} (h : Tr w tr th root rin ths tc ins ic) :
    w.cell? ⟨tr, 0, none⟩ = some (.map (some th)) ∧ w.cell? ⟨root, 2, none⟩ = some (.bool true) ∧ w.cell? ⟨root, 3, none⟩ = some (.map (some rin)) :=
  ⟨by rw [cell_at h.ktr]; rfl, by rw [cell_at h.kroot]; rfl, by rw [cell_at h.kroot]; rfl⟩

section
variable {tr th root rin : Nat} {ths : Array MapEntry} {tc : Nat} {ins : Array MapEntry} {ic : Nat}
set_option maxRecDepth 100000 in
theorem tmade_ (w : World) (h : Tr w tr th root rin ths tc ins ic) : Calls Tryz.prog 68 #[.pointer (some ⟨tr, 0, none⟩)] w fun e w' => e = .returned (.bool true) ∧ w' = w := by
  obtain ⟨c0, _, _⟩ := h.cells
  have hmn := run_neq_map_nil w 130 3 142 (some th) Tryz.underlying130
  go_enter Tryz.func68, Tryz.ntmps68
  go_wp2
  go_ret
  exact ⟨rfl, rfl⟩
set_option maxRecDepth 100000 in
theorem walk_root (w : World) : Calls Tryz.prog 126 #[.pointer (some ⟨tr, 0, none⟩), .slice none 0 0] w fun e w' => e = .returned (.tuple #[.int .i64 1, .int .i64 0]) ∧ w' = w := by
  go_enter Tryz.func126, Tryz.ntmps126
  go_wp2_with fail
  refine wp_loop_rounds 1 ?_; rw [rounds_succ]
  go_wp2_with fail
  go_ret2
  exact ⟨rfl, rfl⟩
set_option maxRecDepth 100000 in
set_option maxHeartbeats 800000 in
theorem look_root (w : World) (h : Tr w tr th root rin ths tc ins ic) : Calls Tryz.prog 72 #[.pointer (some ⟨tr, 0, none⟩), .string ⟨#[47]⟩] w fun e w' => e = .returned (.tuple #[.int .i64 1, .bool true, .int .i64 0]) ∧ Fr No w w' := by
  obtain ⟨c0, c2, c3⟩ := h.cells
  have hl := h.look
  have hl2 := (h.no (Fr.refl w).drew).look
  have HH := Lib.hid h
  clear h
  go_enter Tryz.func72, Tryz.ntmps72
  go_wp2_with fail
  refine (tmade_ _ HH.out).mono ?_
  rintro e w1 ⟨rfl, rfl⟩
  go_wp2_with fail
  refine (split_root _).mono ?_
  rintro e w2 ⟨rfl, rfl⟩
  go_wp2_with fail
  refine (walk_root _).mono ?_
  rintro e w3 ⟨rfl, rfl⟩
  go_wp2_with fail
  go_region
  all_goals (go_wp2_with fail; go_ret3; exact ⟨rfl, (Fr.refl _).drew⟩)
set_option maxRecDepth 100000 in
set_option maxHeartbeats 800000 in
theorem place_f (w : World) (h : Tr w tr th root rin ths tc ins ic) : Calls Tryz.prog 194 #[.pointer (some ⟨tr, 0, none⟩), .string ⟨#[47, 102]⟩] w fun e w' => e = .returned (.tuple #[.int .i64 1, .string ⟨#[102]⟩, .int .i64 0]) ∧ Fr No w w' := by
  have HH := Lib.hid h
  clear h
  go_enter Tryz.func194, Tryz.ntmps194
  go_wp2_with fail
  refine (parent_f _).mono ?_
  rintro e w1 ⟨rfl, f1⟩
  go_wp2_with fail
  refine (look_root _ (HH.out.no f1)).mono ?_
  rintro e w2 ⟨rfl, f2⟩
  go_wp2_with fail
  go_ret3
  exact ⟨rfl, f1.trans f2 (fun _ _ e => e)⟩

/-- the file that Make makes, at x. -/
def Made (w : World) (x : Nat) : Prop := w.heap[x]? = some (.cells #[.int .i64 1, .string ⟨#[102]⟩, .bool false, .map none] 141 (0, 0))

theorem run_len_map {P : Program} {w : World} (t k e : TypeId) (r clock : Nat) (es : Array MapEntry) (ht : P.underlying t = some (.map k e)) (hb : w.heap[r]? = some (.map es clock)) : True := trivial

set_option maxRecDepth 100000 in
set_option maxHeartbeats 1600000 in
theorem make_there (w : World) (v : Value) (i : Nat) (h : Tr w tr th root rin ths tc ins ic) (hf : Instr.findNow .string (.string ⟨#[102]⟩) ins.toList 0 = some (some (i, v))) : Calls Tryz.prog 131 #[.pointer (some ⟨tr, 0, none⟩), .string ⟨#[47, 102]⟩, .bool false] w fun e w' => e = .returned (.tuple #[.int .i64 0, .int .i64 7]) ∧ Fr No w w' := by
  have HH := Lib.hid h
  have HF := Lib.hid hf
  clear h hf
  go_enter Tryz.func131, Tryz.ntmps131
  go_wp2_with fail
  refine (tmade_ _ HH.out).mono ?_
  rintro e w1 ⟨rfl, rfl⟩
  go_wp2_with fail
  refine (place_f _ HH.out).mono ?_
  rintro e w2 ⟨rfl, f2⟩
  have h2 := HH.out.no f2
  obtain ⟨c0, c2, c3⟩ := h2.cells
  have hl := h2.look
  have hi := map_look (P := Tryz.prog) 139 9 3 rin ic ins (.string ⟨#[102]⟩) _ _ Tryz.underlying139 Tryz.underlying9 (by simp [MapKept.IsKey]) h2.krin HF.out true
  simp only [if_true] at hi
  clear h2
  go_wp2_with fail
  go_ret2
  exact ⟨rfl, f2⟩
end
end Go.Proofs.YtlcojhddnpmgmaaGreat
