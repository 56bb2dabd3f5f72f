/- Frames of worlds, and how the data of the script read in a world. Nothing of the program's text is walked here. -/
import Derived.Test.YtkcgijidgppeiaaDoorShelf
import Derived.Test.YtkcgijidgppeiaaDoorShelf2
import Derived.WalkKit
import Derived.WalkLawsBesides
import Derived.WalkSpells
import Derived.Lib.Hide
import Derived.Lib.LaidTab
namespace Go.Proofs.YtkcgijidgppeiaaDoor
open Go.RowKit

/-- Of the blocks that were there none has turned but those in S. -/
structure Fr (S : Nat → Prop) (w w' : World) : Prop where
  os : w'.os = w.os
  tape : w'.tape = w.tape
  output : w'.output = w.output
  size : w.heap.size ≤ w'.heap.size
  block : ∀ k, k < w.heap.size → ¬ S k → w'.heap[k]? = w.heap[k]?

def No (_ : Nat) : Prop := False

theorem Fr.refl {S : Nat → Prop} (w : World) : Fr S w w := ⟨rfl, rfl, rfl, Nat.le_refl _, fun _ _ _ => rfl⟩
theorem Fr.trans {S T : Nat → Prop} {a b c : World} (h : Fr S a b) (k : Fr T b c) (hT : ∀ j, j < a.heap.size → T j → S j) : Fr S a c :=
  ⟨k.os.trans h.os, k.tape.trans h.tape, k.output.trans h.output, Nat.le_trans h.size k.size, fun j hj hn => (k.block j (Nat.lt_of_lt_of_le hj h.size) (fun ht => hn (hT j hj ht))).trans (h.block j hj hn)⟩
theorem Fr.mono {S T : Nat → Prop} {a b : World} (h : Fr S a b) (hT : ∀ j, j < a.heap.size → S j → T j) : Fr T a b :=
  ⟨h.os, h.tape, h.output, h.size, fun j hj hn => h.block j hj (fun hs => hn (hT j hj hs))⟩
theorem Fr.drew {S : Nat → Prop} {a b : World} (h : Fr S a b) : Fr S a b.drew := ⟨h.os, h.tape, h.output, h.size, h.block⟩
theorem Fr.drewN {S : Nat → Prop} {a b : World} (h : Fr S a b) (n : Nat) : Fr S a (b.drewN n) := ⟨h.os, h.tape, h.output, h.size, h.block⟩
theorem Fr.of_below {S : Nat → Prop} {B : Nat} {a b : World} (h : Below B a b) (hB : a.heap.size ≤ B) : Fr S a b :=
  ⟨h.os, h.tape, h.output, h.size, fun k hk _ => h.block k (Nat.lt_of_lt_of_le hk hB)⟩
theorem Fr.below {S : Nat → Prop} {B : Nat} {a b : World} (h : Fr S a b) (hB : B ≤ a.heap.size) (hS : ∀ k, k < B → ¬ S k) : Below B a b :=
  ⟨h.os, h.tape, h.output, h.size, fun k hk => h.block k (Nat.lt_of_lt_of_le hk hB) (hS k hk)⟩
theorem Fr.alloc {S : Nat → Prop} {a b : World} (h : Fr S a b) (o : Obj) : Fr S a (b.alloc o) :=
  ⟨h.os, h.tape, h.output, Nat.le_trans h.size (by simp), fun k hk hn => (Below.heap_alloc _ _ _ (Nat.lt_of_lt_of_le hk h.size)).trans (h.block k hk hn)⟩
theorem Fr.setCell {S : Nat → Prop} {a b : World} (h : Fr S a b) {p : Addr} (hp : S p.block ∨ a.heap.size ≤ p.block) (v : Value) : Fr S a (b.setCell p v) :=
  ⟨h.os, h.tape, h.output, by simpa [World.setCell] using h.size, fun k hk hn => (Below.heap_setCell _ _ _ _ (by
    rintro rfl
    rcases hp with hp | hp
    · exact hn hp
    · omega)).trans (h.block k hk hn)⟩
theorem Fr.grown {S : Nat → Prop} {a b c : World} {row : Option Nat} (h : Fr S a b) (hg : b.grownBy c row) (hr : ∀ k, row = some k → S k ∨ a.heap.size ≤ k) : Fr S a c :=
  ⟨hg.os.trans h.os, hg.tape.trans h.tape, hg.output.trans h.output, Nat.le_trans h.size hg.size, fun k hk hn => (hg.block k (Nat.lt_of_lt_of_le hk h.size) (fun e => by
    rcases hr k e.symm with hp | hp
    · exact hn hp
    · omega)).trans (h.block k hk hn)⟩
theorem Fr.cell {S : Nat → Prop} {a b : World} (h : Fr S a b) {p : Addr} (hp : p.block < a.heap.size) (hn : ¬ S p.block) : b.cell? p = a.cell? p := World.cell?_of_block (w := a) (h.block p.block hp hn)
theorem Fr.frozen {S : Nat → Prop} {a b : World} (h : Fr S a b) {p : Addr} (hp : p.block < a.heap.size) (hn : ¬ S p.block) : b.frozen? p = a.frozen? p := World.frozen?_of_block (w := a) (h.block p.block hp hn)
theorem lt_of_cell {w : World} {p : Addr} {v : Value} (h : w.cell? p = some v) : p.block < w.heap.size := by
  rcases Nat.lt_or_ge p.block w.heap.size with h1 | h1
  · exact h1
  · simp [World.cell?, Array.getElem?_eq_none h1] at h
theorem lt_of_block {w : World} {k : Nat} {o : Obj} (h : w.heap[k]? = some o) : k < w.heap.size := by
  rcases Nat.lt_or_ge k w.heap.size with h1 | h1
  · exact h1
  · simp [Array.getElem?_eq_none h1] at h
theorem Fr.cell_of {S : Nat → Prop} {a b : World} (h : Fr S a b) {p : Addr} {v : Value} (hc : a.cell? p = some v) (hn : ¬ S p.block) : b.cell? p = some v := by
  rw [h.cell (lt_of_cell hc) hn]; exact hc
theorem Fr.block_of {S : Nat → Prop} {a b : World} (h : Fr S a b) {k : Nat} {o : Obj} (hc : a.heap[k]? = some o) (hn : ¬ S k) : b.heap[k]? = some o := by
  rw [h.block k (lt_of_block hc) hn]; exact hc
/-- What became of memory when all that is set lies in new blocks. -/
theorem Fr.no {S : Nat → Prop} {a b : World} (h : Fr S a b) (hS : ∀ k, k < a.heap.size → ¬ S k) : Fr No a b := h.mono (fun j hj hs => hS j hj hs)
theorem Fr.of_no {S : Nat → Prop} {a b : World} (h : Fr No a b) : Fr S a b := h.mono (fun _ _ hs => hs.elim)

/-! ### what is known of the package-level variables -/
structure Glob (w : World) : Prop where
  size : 8 ≤ w.heap.size
  tab : Lib.TabIs Tryd.prog w "internal/strconv.uint64pow10" .u64 Lib.pow10Tab
  syn : ∃ tp p, w.var? Tryd.prog "strconv.ErrSyntax" = some #[.iface tp p]
  range : ∃ tp p, w.var? Tryd.prog "strconv.ErrRange" = some #[.iface tp p]
  maxLen : ∃ m, w.cell? ⟨0, 0, none⟩ = some (.int .i64 m)

theorem glob_tab : Tryd.prog.globalNamed "internal/strconv.uint64pow10" = some 5 := by kernel_rfl
theorem glob_syn : Tryd.prog.globalNamed "strconv.ErrSyntax" = some 3 := by kernel_rfl
theorem glob_range : Tryd.prog.globalNamed "strconv.ErrRange" = some 4 := by kernel_rfl

theorem Glob.of_block {w w' : World} (h : Glob w) (hs : w.heap.size ≤ w'.heap.size) (hb : ∀ k, k < 8 → w'.heap[k]? = w.heap[k]?) : Glob w' := by
  obtain ⟨h1, h2, h3, h4, m, h5⟩ := h
  refine ⟨Nat.le_trans h1 hs, ?_, ?_, ?_, m, ?_⟩
  · unfold Lib.TabIs World.var? at *
    rw [glob_tab] at *
    simp only [Option.bind_some] at *
    rw [hb 5 (by omega)]
    exact h2
  · unfold World.var? at *
    rw [glob_syn] at *
    simp only [Option.bind_some] at *
    rw [hb 3 (by omega)]
    exact h3
  · unfold World.var? at *
    rw [glob_range] at *
    simp only [Option.bind_some] at *
    rw [hb 4 (by omega)]
    exact h4
  · rw [World.cell?_of_block (w := w) (hb 0 (by omega))]
    exact h5
theorem Glob.fr {S : Nat → Prop} {w w' : World} (h : Glob w) (f : Fr S w w') (hS : ∀ k, k < 8 → ¬ S k) : Glob w' :=
  h.of_block f.size (fun k hk => f.block k (Nat.lt_of_lt_of_le hk h.size) (hS k hk))

/-! ### bytes: a slice that reads as some bytes -/
def SlAt (w : World) (v : Value) (bs : List UInt8) : Prop :=
  (bs = [] ∧ ∃ a c, v = .slice a 0 c) ∨ ∃ b off c, v = .slice (some ⟨b, off, none⟩) bs.length c ∧ bs.length ≤ c ∧ b < w.heap.size ∧ True ∧ ∀ j x, bs[j]? = some x → w.cell? ⟨b, off + j, none⟩ = some (.int .u8 x.toNat)

theorem SlAt.fr {S : Nat → Prop} {w w' : World} {v : Value} {bs : List UInt8} (h : SlAt w v bs) (f : Fr S w w') (hS : ∀ a l c, v = .slice (some a) l c → ¬ S a.block) : SlAt w' v bs := by
  rcases h with h | ⟨b, off, c, rfl, hl, hb, h8, hc⟩
  · exact .inl h
  · exact .inr ⟨b, off, c, rfl, hl, Nat.lt_of_lt_of_le hb f.size, h8, fun j x hj => f.cell_of (p := ⟨b, off + j, none⟩) (hc j x hj) (hS ⟨b, off, none⟩ _ _ rfl)⟩

#print axioms Glob.fr
end Go.Proofs.YtkcgijidgppeiaaDoor
