/- The state's make, and how a deed is tried. Walked. -/
import Derived.Test.YtlcojhddnpmgmaaGreatC
import Derived.Test.YtlcojhddnpmgmaaGreatF
import Derived.Recover
import Derived.Deep.RegionHeld3
import Derived.Outline
namespace Go.Proofs.YtlcojhddnpmgmaaGreat
open Go.RowKit

def refC (e : Int) : List PanicEntry := [{ v := .iface 157 (.agg #[.int .i64 e]), recovered := false }]
/-- a request's cells. -/
def req (n kind : Int) (path : ByteArray) : Array Value := #[.int .i64 0, .int .i64 0, .int .i64 n, .int .i64 kind, .string path, .string ⟨#[]⟩, .bool false, .bool false, .bool false, .int .i64 0, .int .i64 0, .int .i64 0, .slice none 0 0, .slice none 0 0]
/-- a reply's cells: its error, its number. -/
def rep (e n : Int) : Array Value := #[.int .i64 e, .int .i64 n, .int .i64 0, .int .i64 0, .int .i64 0, .bool false, .slice none 0 0, .slice none 0 0]

theorem must_yes (e : Int) (w : World) : Calls Tryz.prog 91 #[.bool true, .int .i64 e] w fun e w' => e = .returned (.tuple #[]) ∧ w' = w := by
  go_enter Tryz.func91, Tryz.ntmps91
  go_wp2
  go_end0
  exact ⟨rfl, rfl⟩
theorem must_no (x : Int) (w : World) : Calls Tryz.prog 91 #[.bool false, .int .i64 x] w fun e w' => e = .panicked (refC x) ∧ w' = w := by
  go_enter Tryz.func91, Tryz.ntmps91
  go_wp2
  exact ⟨rfl, rfl, rfl⟩

theorem At.tree {w : World} {L : Loc} {C : Con} (h : At w L C) (h1 : Instr.findNow (.int .i64) (.int .i64 1) C.ths.toList 0 = some (some (0, .pointer (some ⟨L.root, 0, none⟩)))) : Tr w L.tr L.th L.root L.rin C.ths C.tc C.ins C.ic := ⟨h.tr, h.th, h.root, h.rin, h1⟩

set_option maxRecDepth 100000 in
set_option maxHeartbeats 3200000 in
theorem smake_there (w : World) (L : Loc) (C : Con) (n : Int) (v : Value) (i : Nat) (h : At w L C) (h1 : Instr.findNow (.int .i64) (.int .i64 1) C.ths.toList 0 = some (some (0, .pointer (some ⟨L.root, 0, none⟩)))) (hf : Instr.findNow .string (.string ⟨#[102]⟩) C.ins.toList 0 = some (some (i, v))) :
    Calls Tryz.prog 82 #[.pointer (some ⟨L.s, 0, none⟩), .agg (req n 1 ⟨#[47, 102]⟩)] w fun e w' => e = .panicked (refC 7) ∧ Fr No w w' := by
  have f0 : Fr No w ((w.alloc (.cells (req n 1 ⟨#[47, 102]⟩) 36)).alloc (.cells (rep 0 0) 29)) := ((Fr.refl w).alloc _).alloc _
  have k0 : ((w.alloc (.cells (req n 1 ⟨#[47, 102]⟩) 36)).alloc (.cells (rep 0 0) 29)).heap[w.heap.size]? = some (.cells (req n 1 ⟨#[47, 102]⟩) 36 (0, 0)) := ((Fr.refl (S := No) _).alloc _).block_of (new_at w _) id
  have a0 := h.no f0
  unfold req rep at *
  go_enter Tryz.func82, Tryz.ntmps82
  go_wp2_with fail
  generalize ((w.alloc (.cells #[.int .i64 0, .int .i64 0, .int .i64 n, .int .i64 1, .string ⟨#[47, 102]⟩, .string ⟨#[]⟩, .bool false, .bool false, .bool false, .int .i64 0, .int .i64 0, .int .i64 0, .slice none 0 0, .slice none 0 0] 36)).alloc (.cells #[.int .i64 0, .int .i64 0, .int .i64 0, .int .i64 0, .int .i64 0, .bool false, .slice none 0 0, .slice none 0 0] 29)) = w0 at *
  generalize w.heap.size = b0 at *
  have c5 : w0.cell? ⟨L.s, 9, none⟩ = some (.pointer (some ⟨L.tr, 0, none⟩)) := by rw [cell_at a0.s]; rfl
  have d4 : w0.cell? ⟨b0, 4, none⟩ = some (.string ⟨#[47, 102]⟩) := by rw [cell_at k0]; rfl
  have d6 : w0.cell? ⟨b0, 6, none⟩ = some (.bool false) := by rw [cell_at k0]; rfl
  have T := Lib.hid (a0.tree h1)
  have HF := Lib.hid hf
  clear h h1 a0 k0 hf
  go_region_held3 (fun w' => w'.cell? ⟨L.s, 9, none⟩ = some (.pointer (some ⟨L.tr, 0, none⟩)) ∧ w'.cell? ⟨b0, 4, none⟩ = some (.string ⟨#[47, 102]⟩) ∧ w'.cell? ⟨b0, 6, none⟩ = some (.bool false)) (first | go_keep | (go_split_ands; refine ⟨?_, ?_, ?_⟩ <;> exact f1.cell_of (by assumption) id))
    ((go_at_call 131; refine (make_there _ v i (T.out.no (Fr.refl _).drew) HF.out).mono ?_; rintro e w1 ⟨rfl, f1⟩))
  go_wp2_with fail
  refine (must_no _ _).mono ?_
  rintro e w2 ⟨rfl, rfl⟩
  go_wp2_with fail
  exact ⟨rfl, rfl, f0.trans ((Fr.refl _).drew.trans f1 (fun _ _ e => e)) (fun _ _ e => e)⟩
end Go.Proofs.YtlcojhddnpmgmaaGreat
