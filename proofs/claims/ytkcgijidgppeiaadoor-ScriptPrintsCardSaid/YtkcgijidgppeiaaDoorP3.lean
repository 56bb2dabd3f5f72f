/- The script's reader, walked: the first line, an operation, an event. -/
import Derived.Test.YtkcgijidgppeiaaDoorP2
namespace Go.Proofs.YtkcgijidgppeiaaDoor
open Go.RowKit

theorem setCell_at {w : World} {b : Nat} {cs : Array Value} {t : TypeId} {fz : Nat × Nat} (h : w.heap[b]? = some (.cells cs t fz)) (j : Nat) (v : Value) :
    (w.setCell ⟨b, j, none⟩ v).heap[b]? = some (.cells (cs.setIfInBounds j v) t fz) := by
  simp [World.setCell, Array.getElem?_modify, h]
theorem setCell_off {w : World} {b k : Nat} {o : Obj} (h : w.heap[k]? = some o) (hne : k ≠ b) (j : Nat) (v : Value) : (w.setCell ⟨b, j, none⟩ v).heap[k]? = some o := by
  rw [Below.heap_setCell _ _ _ _ hne]; exact h
theorem cell_at {w : World} {b : Nat} {cs : Array Value} {t : TypeId} {fz : Nat × Nat} (h : w.heap[b]? = some (.cells cs t fz)) (j : Nat) : w.cell? ⟨b, j, none⟩ = cs[j]? := by
  simp [World.cell?, h]
theorem frozen_at {w : World} {b : Nat} {cs : Array Value} {t : TypeId} (h : w.heap[b]? = some (.cells cs t (0, 0))) (j : Nat) : w.frozen? ⟨b, j, none⟩ = false := by
  simp [World.frozen?, h]

/-- the names of the events, by number. -/
theorem names_at0 (w : World) : (Instr.index 99 (.agg #[.string ⟨#[98, 101, 103, 105, 110]⟩, .string ⟨#[115, 116, 101, 112]⟩, .string ⟨#[99, 108, 101, 97, 110]⟩, .string ⟨#[109, 101, 110, 100]⟩, .string ⟨#[99, 111, 109, 101]⟩, .string ⟨#[99, 114, 97, 115, 104]⟩, .string ⟨#[115, 116, 97, 114, 116]⟩, .string ⟨#[108, 111, 115, 101]⟩, .string ⟨#[114, 101, 112, 108, 97, 99, 101]⟩, .string ⟨#[102, 117, 115, 101]⟩]) (.int .i64 ((0 : Nat) : Int))).run Tryd.prog w = .ok (.string ⟨(Scr.name (((0 : Nat) : Int) + 1)).toArray⟩) w := by kernel_rfl
theorem names_at1 (w : World) : (Instr.index 99 (.agg #[.string ⟨#[98, 101, 103, 105, 110]⟩, .string ⟨#[115, 116, 101, 112]⟩, .string ⟨#[99, 108, 101, 97, 110]⟩, .string ⟨#[109, 101, 110, 100]⟩, .string ⟨#[99, 111, 109, 101]⟩, .string ⟨#[99, 114, 97, 115, 104]⟩, .string ⟨#[115, 116, 97, 114, 116]⟩, .string ⟨#[108, 111, 115, 101]⟩, .string ⟨#[114, 101, 112, 108, 97, 99, 101]⟩, .string ⟨#[102, 117, 115, 101]⟩]) (.int .i64 ((1 : Nat) : Int))).run Tryd.prog w = .ok (.string ⟨(Scr.name (((1 : Nat) : Int) + 1)).toArray⟩) w := by kernel_rfl
theorem names_at2 (w : World) : (Instr.index 99 (.agg #[.string ⟨#[98, 101, 103, 105, 110]⟩, .string ⟨#[115, 116, 101, 112]⟩, .string ⟨#[99, 108, 101, 97, 110]⟩, .string ⟨#[109, 101, 110, 100]⟩, .string ⟨#[99, 111, 109, 101]⟩, .string ⟨#[99, 114, 97, 115, 104]⟩, .string ⟨#[115, 116, 97, 114, 116]⟩, .string ⟨#[108, 111, 115, 101]⟩, .string ⟨#[114, 101, 112, 108, 97, 99, 101]⟩, .string ⟨#[102, 117, 115, 101]⟩]) (.int .i64 ((2 : Nat) : Int))).run Tryd.prog w = .ok (.string ⟨(Scr.name (((2 : Nat) : Int) + 1)).toArray⟩) w := by kernel_rfl
theorem names_at3 (w : World) : (Instr.index 99 (.agg #[.string ⟨#[98, 101, 103, 105, 110]⟩, .string ⟨#[115, 116, 101, 112]⟩, .string ⟨#[99, 108, 101, 97, 110]⟩, .string ⟨#[109, 101, 110, 100]⟩, .string ⟨#[99, 111, 109, 101]⟩, .string ⟨#[99, 114, 97, 115, 104]⟩, .string ⟨#[115, 116, 97, 114, 116]⟩, .string ⟨#[108, 111, 115, 101]⟩, .string ⟨#[114, 101, 112, 108, 97, 99, 101]⟩, .string ⟨#[102, 117, 115, 101]⟩]) (.int .i64 ((3 : Nat) : Int))).run Tryd.prog w = .ok (.string ⟨(Scr.name (((3 : Nat) : Int) + 1)).toArray⟩) w := by kernel_rfl
theorem names_at4 (w : World) : (Instr.index 99 (.agg #[.string ⟨#[98, 101, 103, 105, 110]⟩, .string ⟨#[115, 116, 101, 112]⟩, .string ⟨#[99, 108, 101, 97, 110]⟩, .string ⟨#[109, 101, 110, 100]⟩, .string ⟨#[99, 111, 109, 101]⟩, .string ⟨#[99, 114, 97, 115, 104]⟩, .string ⟨#[115, 116, 97, 114, 116]⟩, .string ⟨#[108, 111, 115, 101]⟩, .string ⟨#[114, 101, 112, 108, 97, 99, 101]⟩, .string ⟨#[102, 117, 115, 101]⟩]) (.int .i64 ((4 : Nat) : Int))).run Tryd.prog w = .ok (.string ⟨(Scr.name (((4 : Nat) : Int) + 1)).toArray⟩) w := by kernel_rfl
theorem names_at5 (w : World) : (Instr.index 99 (.agg #[.string ⟨#[98, 101, 103, 105, 110]⟩, .string ⟨#[115, 116, 101, 112]⟩, .string ⟨#[99, 108, 101, 97, 110]⟩, .string ⟨#[109, 101, 110, 100]⟩, .string ⟨#[99, 111, 109, 101]⟩, .string ⟨#[99, 114, 97, 115, 104]⟩, .string ⟨#[115, 116, 97, 114, 116]⟩, .string ⟨#[108, 111, 115, 101]⟩, .string ⟨#[114, 101, 112, 108, 97, 99, 101]⟩, .string ⟨#[102, 117, 115, 101]⟩]) (.int .i64 ((5 : Nat) : Int))).run Tryd.prog w = .ok (.string ⟨(Scr.name (((5 : Nat) : Int) + 1)).toArray⟩) w := by kernel_rfl
theorem names_at6 (w : World) : (Instr.index 99 (.agg #[.string ⟨#[98, 101, 103, 105, 110]⟩, .string ⟨#[115, 116, 101, 112]⟩, .string ⟨#[99, 108, 101, 97, 110]⟩, .string ⟨#[109, 101, 110, 100]⟩, .string ⟨#[99, 111, 109, 101]⟩, .string ⟨#[99, 114, 97, 115, 104]⟩, .string ⟨#[115, 116, 97, 114, 116]⟩, .string ⟨#[108, 111, 115, 101]⟩, .string ⟨#[114, 101, 112, 108, 97, 99, 101]⟩, .string ⟨#[102, 117, 115, 101]⟩]) (.int .i64 ((6 : Nat) : Int))).run Tryd.prog w = .ok (.string ⟨(Scr.name (((6 : Nat) : Int) + 1)).toArray⟩) w := by kernel_rfl
theorem names_at7 (w : World) : (Instr.index 99 (.agg #[.string ⟨#[98, 101, 103, 105, 110]⟩, .string ⟨#[115, 116, 101, 112]⟩, .string ⟨#[99, 108, 101, 97, 110]⟩, .string ⟨#[109, 101, 110, 100]⟩, .string ⟨#[99, 111, 109, 101]⟩, .string ⟨#[99, 114, 97, 115, 104]⟩, .string ⟨#[115, 116, 97, 114, 116]⟩, .string ⟨#[108, 111, 115, 101]⟩, .string ⟨#[114, 101, 112, 108, 97, 99, 101]⟩, .string ⟨#[102, 117, 115, 101]⟩]) (.int .i64 ((7 : Nat) : Int))).run Tryd.prog w = .ok (.string ⟨(Scr.name (((7 : Nat) : Int) + 1)).toArray⟩) w := by kernel_rfl
theorem names_at8 (w : World) : (Instr.index 99 (.agg #[.string ⟨#[98, 101, 103, 105, 110]⟩, .string ⟨#[115, 116, 101, 112]⟩, .string ⟨#[99, 108, 101, 97, 110]⟩, .string ⟨#[109, 101, 110, 100]⟩, .string ⟨#[99, 111, 109, 101]⟩, .string ⟨#[99, 114, 97, 115, 104]⟩, .string ⟨#[115, 116, 97, 114, 116]⟩, .string ⟨#[108, 111, 115, 101]⟩, .string ⟨#[114, 101, 112, 108, 97, 99, 101]⟩, .string ⟨#[102, 117, 115, 101]⟩]) (.int .i64 ((8 : Nat) : Int))).run Tryd.prog w = .ok (.string ⟨(Scr.name (((8 : Nat) : Int) + 1)).toArray⟩) w := by kernel_rfl
theorem names_at9 (w : World) : (Instr.index 99 (.agg #[.string ⟨#[98, 101, 103, 105, 110]⟩, .string ⟨#[115, 116, 101, 112]⟩, .string ⟨#[99, 108, 101, 97, 110]⟩, .string ⟨#[109, 101, 110, 100]⟩, .string ⟨#[99, 111, 109, 101]⟩, .string ⟨#[99, 114, 97, 115, 104]⟩, .string ⟨#[115, 116, 97, 114, 116]⟩, .string ⟨#[108, 111, 115, 101]⟩, .string ⟨#[114, 101, 112, 108, 97, 99, 101]⟩, .string ⟨#[102, 117, 115, 101]⟩]) (.int .i64 ((9 : Nat) : Int))).run Tryd.prog w = .ok (.string ⟨(Scr.name (((9 : Nat) : Int) + 1)).toArray⟩) w := by kernel_rfl
theorem names_at (i : Nat) (hi : i < 10) (w : World) : (Instr.index 99 (.agg #[.string ⟨#[98, 101, 103, 105, 110]⟩, .string ⟨#[115, 116, 101, 112]⟩, .string ⟨#[99, 108, 101, 97, 110]⟩, .string ⟨#[109, 101, 110, 100]⟩, .string ⟨#[99, 111, 109, 101]⟩, .string ⟨#[99, 114, 97, 115, 104]⟩, .string ⟨#[115, 116, 97, 114, 116]⟩, .string ⟨#[108, 111, 115, 101]⟩, .string ⟨#[114, 101, 112, 108, 97, 99, 101]⟩, .string ⟨#[102, 117, 115, 101]⟩]) (.int .i64 i)).run Tryd.prog w = .ok (.string ⟨(Scr.name ((i : Int) + 1)).toArray⟩) w :=
  match i, hi with
  | 0, _ => names_at0 w
  | 1, _ => names_at1 w
  | 2, _ => names_at2 w
  | 3, _ => names_at3 w
  | 4, _ => names_at4 w
  | 5, _ => names_at5 w
  | 6, _ => names_at6 w
  | 7, _ => names_at7 w
  | 8, _ => names_at8 w
  | 9, _ => names_at9 w

set_option maxRecDepth 100000 in
set_option maxHeartbeats 400000 in
theorem name_ (k : Int) (w : World) (h0 : -9223372036854775808 ≤ k) (h1 : k ≤ 9223372036854775807) : Calls Tryd.prog 26 #[.int .i64 k] w fun e w' => e = .returned (.string ⟨(Scr.name k).toArray⟩) ∧ w = w' := by
  by_cases h : 1 ≤ k ∧ k ≤ 10
  · obtain ⟨ha, hb⟩ := h
    obtain ⟨i, hi⟩ : ∃ i : Nat, k = (i : Int) + 1 := ⟨(k - 1).toNat, by omega⟩
    subst hi
    have hx := names_at i (by omega)
    clear h0 h1
    go_enter Tryd.func26, Tryd.ntmps26
    go_wp2
    go_ret
    exact ⟨rfl, rfl⟩
  · have hn : Scr.name k = [] := by unfold Scr.name; rw [if_neg h]
    rw [hn]
    by_cases ha : k < 1
    · clear h hn
      go_enter Tryd.func26, Tryd.ntmps26
      go_wp2
      go_ret
      exact ⟨rfl, rfl⟩
    · have hb : 10 < k := by omega
      clear h hn
      go_enter Tryd.func26, Tryd.ntmps26
      go_wp2
      go_ret
      exact ⟨rfl, rfl⟩
def I64 (x : Int) : Prop := -9223372036854775808 ≤ x ∧ x ≤ 9223372036854775807

def CfgV (c : Scr.Cfg) (v : Value) : Prop := v = .agg #[.int .i64 c.servers, .int .i64 c.clients, .int .i64 c.sectors, .int .i64 c.journal, .int .i64 c.tries] ∧ I64 c.servers ∧ I64 c.clients ∧ I64 c.sectors ∧ I64 c.journal ∧ I64 c.tries

theorem new_at (w : World) (o : Obj) : (w.alloc o).heap[w.heap.size]? = some o := (MapKept.heap_alloc w o).1

theorem fr_set (w : World) (b j : Nat) (v : Value) : Fr (· = b) w (w.setCell ⟨b, j, none⟩ v) := Fr.setCell (S := (· = b)) (p := ⟨b, j, none⟩) (Fr.refl _) (.inl rfl) _
theorem Rd.set {w : World} {br b : Nat} {ws : List ByteArray} (h : Rd w br ws) (hb : br < b) (j : Nat) (v : Value) : Rd (w.setCell ⟨b, j, none⟩ v) br ws :=
  h.fr (fr_set w b j v) (fun k hk e => by omega)
theorem Glob.set {w : World} {b : Nat} (h : Glob w) (hb : 8 ≤ b) (j : Nat) (v : Value) : Glob (w.setCell ⟨b, j, none⟩ v) :=
  h.fr (fr_set w b j v) (fun k hk e => by omega)

/-- two blocks of the call's own, b2 and bc, beside a reader. -/
structure Two (w0 w : World) (br : Nat) (ws : List ByteArray) (b2 : Nat) (c2 : Array Value) (bc : Nat) (cc : Array Value) (t : TypeId) : Prop where
  gl : Glob w
  rd : Rd w br ws
  k2 : w.heap[b2]? = some (.cells c2 t (0, 0))
  kc : w.heap[bc]? = some (.cells cc t (0, 0))
  fr : Fr (· = br) w0 w
  l2 : w0.heap.size ≤ b2
  lc : w0.heap.size ≤ bc
  ne : b2 ≠ bc
  lbr : br < w0.heap.size

theorem Two.call {w0 w w' : World} {br b2 bc : Nat} {ws ws' : List ByteArray} {c2 cc : Array Value} {t : TypeId} (h : Two w0 w br ws b2 c2 bc cc t) (f : Fr (· = br) w w') (r : Rd w' br ws') : Two w0 w' br ws' b2 c2 bc cc t :=
  ⟨h.gl.br f h.rd.1, r, f.block_of h.k2 (by have := h.l2; have := h.lbr; omega), f.block_of h.kc (by have := h.lc; have := h.lbr; omega), h.fr.br_trans f, h.l2, h.lc, h.ne, h.lbr⟩
theorem Two.no {w0 w w' : World} {br b2 bc : Nat} {ws : List ByteArray} {c2 cc : Array Value} {t : TypeId} (h : Two w0 w br ws b2 c2 bc cc t) (f : Fr No w w') : Two w0 w' br ws b2 c2 bc cc t :=
  h.call f.of_no (h.rd.no f)
theorem Two.setC {w0 w : World} {br b2 bc : Nat} {ws : List ByteArray} {c2 cc : Array Value} {t : TypeId} (h : Two w0 w br ws b2 c2 bc cc t) (j : Nat) (v : Value) : Two w0 (w.setCell ⟨bc, j, none⟩ v) br ws b2 c2 bc (cc.setIfInBounds j v) t :=
  ⟨h.gl.set (by have := h.lc; have := h.lbr; have := h.rd.1; omega) j v, h.rd.set (by have := h.lc; have := h.lbr; omega) j v, setCell_off h.k2 h.ne j v, setCell_at h.kc j v,
    Fr.setCell (p := ⟨bc, j, none⟩) h.fr (.inr h.lc) v, h.l2, h.lc, h.ne, h.lbr⟩
theorem Two.set2 {w0 w : World} {br b2 bc : Nat} {ws : List ByteArray} {c2 cc : Array Value} {t : TypeId} (h : Two w0 w br ws b2 c2 bc cc t) (j : Nat) (v : Value) : Two w0 (w.setCell ⟨b2, j, none⟩ v) br ws b2 (c2.setIfInBounds j v) bc cc t :=
  ⟨h.gl.set (by have := h.l2; have := h.lbr; have := h.rd.1; omega) j v, h.rd.set (by have := h.l2; have := h.lbr; omega) j v, setCell_at h.k2 j v, setCell_off h.kc (Ne.symm h.ne) j v,
    Fr.setCell (p := ⟨b2, j, none⟩) h.fr (.inr h.l2) v, h.l2, h.lc, h.ne, h.lbr⟩
theorem Two.cell {w0 w : World} {br b2 bc : Nat} {ws : List ByteArray} {c2 cc : Array Value} {t : TypeId} (h : Two w0 w br ws b2 c2 bc cc t) (j : Nat) : w.cell? ⟨bc, j, none⟩ = cc[j]? ∧ w.frozen? ⟨bc, j, none⟩ = false := ⟨cell_at h.kc j, frozen_at h.kc j⟩
theorem Two.cell2 {w0 w : World} {br b2 bc : Nat} {ws : List ByteArray} {c2 cc : Array Value} {t : TypeId} (h : Two w0 w br ws b2 c2 bc cc t) (j : Nat) : w.cell? ⟨b2, j, none⟩ = c2[j]? ∧ w.frozen? ⟨b2, j, none⟩ = false := ⟨cell_at h.k2 j, frozen_at h.k2 j⟩

set_option maxRecDepth 100000 in
set_option maxHeartbeats 800000 in
theorem config_ (br : Nat) (ws : List ByteArray) (w : World) (h : Rd w br ws) (hg : Glob w) : Calls Tryd.prog 20 #[.pointer (some ⟨br, 0, none⟩)] w (RdPost w br ws Scr.config fun _ x v => CfgV x v) := by
  have hlt := h.lt
  have h8 := h.1
  have hne : w.heap.size ≠ br := by omega
  have B2 := new_at w (.cells #[.int .i64 0, .int .i64 0, .int .i64 0, .int .i64 0, .int .i64 0] 24)
  have F0 : Fr (· = br) w (w.alloc (.cells #[.int .i64 0, .int .i64 0, .int .i64 0, .int .i64 0, .int .i64 0] 24)) := (Fr.refl _).alloc _
  have R0 := h.no ((Fr.refl _).alloc (.cells #[.int .i64 0, .int .i64 0, .int .i64 0, .int .i64 0, .int .i64 0] 24))
  have G0 := hg.no ((Fr.refl _).alloc (.cells #[.int .i64 0, .int .i64 0, .int .i64 0, .int .i64 0, .int .i64 0] 24))
  go_enter Tryd.func20, Tryd.ntmps20
  go_wp2_with fail
  refine (word_ br ws _ R0).mono ?_
  rintro e w1 (⟨x, r, v, hf, rfl, rfl, hr, f1⟩ | ⟨hf, rfl, f1⟩)
  rotate_left
  · exact ⟨rfl, .inr ⟨by simp [Scr.config, hf], rfl, F0.br_trans f1⟩⟩
  have B21 := f1.block_of B2 hne
  have hsz1 : w.heap.size < w1.heap.size := lt_of_block B21
  have O : Two w (w1.alloc (.cells #[.int .i64 0, .int .i64 0, .int .i64 0, .int .i64 0, .int .i64 0] 24)) br r w.heap.size #[.int .i64 0, .int .i64 0, .int .i64 0, .int .i64 0, .int .i64 0] w1.heap.size #[.int .i64 0, .int .i64 0, .int .i64 0, .int .i64 0, .int .i64 0] 24 :=
    ⟨(G0.br f1 h8).no ((Fr.refl _).alloc _), hr.no ((Fr.refl _).alloc _), by rw [Below.heap_alloc _ _ _ hsz1]; exact B21, new_at _ _, (F0.br_trans f1).alloc _, Nat.le_refl _, Nat.le_of_lt hsz1, Nat.ne_of_lt hsz1, hlt⟩
  have HW := Lib.hid hf
  have HF := Lib.hid (F0.br_trans f1)
  clear hf R0 G0 F0 B2 B21 f1 hr h
  by_cases hx : x.data.toList = [119, 111, 114, 108, 100]
  · obtain rfl : x = ⟨#[119, 111, 114, 108, 100]⟩ := WideShapes.bytes_inj hx
    clear hx
    go_wp2_with fail
    refine (num_ br r _ O.rd O.gl).mono ?_
    rintro e w2 (⟨x0, r0, v0, hf, rfl, ⟨rfl, i0, i1⟩, hr, f⟩ | ⟨hf, rfl, f⟩)
    rotate_left
    · exact ⟨rfl, .inr ⟨by simp [Scr.config, HW.out, hf], rfl, O.fr.br_trans f⟩⟩
    have H0 := Lib.hid hf
    have I0 : I64 x0 := ⟨i0, i1⟩
    replace O := O.call f hr
    clear hf f hr i0 i1
    obtain ⟨c0, z0⟩ := O.cell 0
    simp only [List.getElem?_toArray, List.getElem?_cons_zero] at c0
    go_wp2_with fail
    replace O := O.setC 0 (.int .i64 x0)
    clear c0 z0
    refine (num_ br r0 _ O.rd O.gl).mono ?_
    rintro e w3 (⟨x1, r1, v1, hf, rfl, ⟨rfl, i0, i1⟩, hr, f⟩ | ⟨hf, rfl, f⟩)
    rotate_left
    · exact ⟨rfl, .inr ⟨by simp [Scr.config, HW.out, H0.out, hf], rfl, O.fr.br_trans f⟩⟩
    have H1 := Lib.hid hf
    have I1 : I64 x1 := ⟨i0, i1⟩
    replace O := O.call f hr
    clear hf f hr i0 i1
    obtain ⟨c1, z1⟩ := O.cell 1
    simp only [List.getElem?_toArray, List.getElem?_cons_zero, List.getElem?_cons_succ, List.setIfInBounds_toArray, List.set_cons_zero] at c1
    go_wp2_with fail
    replace O := O.setC 1 (.int .i64 x1)
    clear c1 z1
    refine (num_ br r1 _ O.rd O.gl).mono ?_
    rintro e w4 (⟨x2, r2, v2, hf, rfl, ⟨rfl, i0, i1⟩, hr, f⟩ | ⟨hf, rfl, f⟩)
    rotate_left
    · exact ⟨rfl, .inr ⟨by simp [Scr.config, HW.out, H0.out, H1.out, hf], rfl, O.fr.br_trans f⟩⟩
    have H2 := Lib.hid hf
    have I2 : I64 x2 := ⟨i0, i1⟩
    replace O := O.call f hr
    clear hf f hr i0 i1
    obtain ⟨c2, z2⟩ := O.cell 2
    simp only [List.getElem?_toArray, List.getElem?_cons_zero, List.getElem?_cons_succ, List.setIfInBounds_toArray, List.set_cons_zero, List.set_cons_succ] at c2
    go_wp2_with fail
    replace O := O.setC 2 (.int .i64 x2)
    clear c2 z2
    refine (num_ br r2 _ O.rd O.gl).mono ?_
    rintro e w5 (⟨x3, r3, v3, hf, rfl, ⟨rfl, i0, i1⟩, hr, f⟩ | ⟨hf, rfl, f⟩)
    rotate_left
    · exact ⟨rfl, .inr ⟨by simp [Scr.config, HW.out, H0.out, H1.out, H2.out, hf], rfl, O.fr.br_trans f⟩⟩
    have H3 := Lib.hid hf
    have I3 : I64 x3 := ⟨i0, i1⟩
    replace O := O.call f hr
    clear hf f hr i0 i1
    obtain ⟨c3, z3⟩ := O.cell 3
    simp only [List.getElem?_toArray, List.getElem?_cons_zero, List.getElem?_cons_succ, List.setIfInBounds_toArray, List.set_cons_zero, List.set_cons_succ] at c3
    go_wp2_with fail
    replace O := O.setC 3 (.int .i64 x3)
    clear c3 z3
    refine (num_ br r3 _ O.rd O.gl).mono ?_
    rintro e w6 (⟨x4, r4, v4, hf, rfl, ⟨rfl, i0, i1⟩, hr, f⟩ | ⟨hf, rfl, f⟩)
    rotate_left
    · exact ⟨rfl, .inr ⟨by simp [Scr.config, HW.out, H0.out, H1.out, H2.out, H3.out, hf], rfl, O.fr.br_trans f⟩⟩
    have H4 := Lib.hid hf
    have I4 : I64 x4 := ⟨i0, i1⟩
    replace O := O.call f hr
    clear hf f hr i0 i1
    obtain ⟨c4, z4⟩ := O.cell 4
    simp only [List.getElem?_toArray, List.getElem?_cons_zero, List.getElem?_cons_succ, List.setIfInBounds_toArray, List.set_cons_zero, List.set_cons_succ] at c4
    have O' := O.setC 4 (.int .i64 x4)
    obtain ⟨d0, y0⟩ := O.cell2 0
    obtain ⟨d1, y1⟩ := O.cell2 1
    obtain ⟨d2, y2⟩ := O.cell2 2
    obtain ⟨d3, y3⟩ := O.cell2 3
    obtain ⟨d4, y4⟩ := O.cell2 4
    obtain ⟨e0, _⟩ := O.cell 0
    obtain ⟨e1, _⟩ := O.cell 1
    obtain ⟨e2, _⟩ := O.cell 2
    obtain ⟨e3, _⟩ := O.cell 3
    have hne2 : w.heap.size ≠ w1.heap.size := Nat.ne_of_lt hsz1
    simp only [List.getElem?_toArray, List.getElem?_cons_zero, List.getElem?_cons_succ, List.setIfInBounds_toArray, List.set_cons_zero, List.set_cons_succ] at d0 d1 d2 d3 d4 e0 e1 e2 e3
    have O2 := ((((O'.set2 0 (.int .i64 x0)).set2 1 (.int .i64 x1)).set2 2 (.int .i64 x2)).set2 3 (.int .i64 x3)).set2 4 (.int .i64 x4)
    clear O' O
    go_wp2_with fail
    refine bodyPost_ret (v := .agg #[.int .i64 x0, .int .i64 x1, .int .i64 x2, .int .i64 x3, .int .i64 x4]) (by simp [results, Tryd.results20, go_sem, d0, d1, d2, d3, d4]) rfl (.inl ⟨⟨x0, x1, x2, x3, x4⟩, r4, _, ?_, rfl, ⟨rfl, I0, I1, I2, I3, I4⟩, O2.rd, O2.fr⟩)
    simp [Scr.config, HW.out, H0.out, H1.out, H2.out, H3.out, H4.out]
  · have ht : (x.toList == [119, 111, 114, 108, 100]) = false := by rw [ByteArray.toList_eq]; simpa using hx
    have HX := Lib.hid hx
    clear hx
    go_wp2_with fail
    exact ⟨rfl, .inr ⟨by simp [Scr.config, HW.out, HX.out], rfl, HF.out⟩⟩
end Go.Proofs.YtkcgijidgppeiaaDoor
