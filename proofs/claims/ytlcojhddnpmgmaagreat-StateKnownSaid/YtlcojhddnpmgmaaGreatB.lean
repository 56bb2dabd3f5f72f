/- The window of last requests: a stamp's kind, Ask, Done. Walked at the stamps that the first sentence of each statement uses. -/
import Derived.Test.YtlcojhddnpmgmaaGreatA
import Derived.Test.YtlcojhddnpmgmaaGreatShelf
import Derived.Deep.RegionHeld3
namespace Go.Proofs.YtlcojhddnpmgmaaGreat
open Go.RowKit

/-- a slice that reads as bytes. -/
def SlAt (w : World) (v : Value) (bs : List UInt8) : Prop :=
  (bs = [] ∧ ∃ a c, v = .slice a 0 c) ∨ ∃ b off c, v = .slice (some ⟨b, off, none⟩) bs.length c ∧ bs.length ≤ c ∧ b < w.heap.size ∧ ∀ j x, bs[j]? = some x → w.cell? ⟨b, off + j, none⟩ = some (.int .u8 x.toNat)
theorem SlAt.fr {S : Nat → Prop} {w w' : World} {v : Value} {bs : List UInt8} (h : SlAt w v bs) (f : Fr S w w') (hS : ∀ a l c, v = .slice (some a) l c → ¬ S a.block) : SlAt w' v bs := by
  rcases h with h | ⟨b, off, c, rfl, hl, hb, hc⟩
  · exact .inl h
  · exact .inr ⟨b, off, c, rfl, hl, Nat.lt_of_lt_of_le hb f.size, fun j x hj => f.cell_of (p := ⟨b, off + j, none⟩) (hc j x hj) (hS ⟨b, off, none⟩ _ _ rfl)⟩
theorem SlAt.no {w w' : World} {v : Value} {bs : List UInt8} (h : SlAt w v bs) (f : Fr No w w') : SlAt w' v bs := h.fr f (fun _ _ _ _ e => e)
/-- bytes behind which there is room, or not: a slice of the call's own. -/
def SlIs (w : World) (v : Value) (bs : List UInt8) (b off c : Nat) : Prop := v = .slice (some ⟨b, off, none⟩) bs.length c ∧ bs.length ≤ c ∧ b < w.heap.size ∧ ∀ j x, bs[j]? = some x → w.cell? ⟨b, off + j, none⟩ = some (.int .u8 x.toNat)

set_option maxRecDepth 100000 in
theorem may_yes (n : Int) (w : World) (h1 : 1 ≤ n) (h2 : n ≤ 1073741824) : Calls Tryz.prog 98 #[.agg #[.int .i64 0, .int .i64 0, .int .i64 n]] w fun e w' => e = .returned (.bool true) ∧ Fr No w w' := by
  go_enter Tryz.func98, Tryz.ntmps98
  go_wp2
  go_ret
  exact ⟨rfl, (Fr.refl w).alloc _⟩
set_option maxRecDepth 100000 in
theorem may_no (w : World) : Calls Tryz.prog 98 #[.agg #[.int .i64 0, .int .i64 0, .int .i64 0]] w fun e w' => e = .returned (.bool false) ∧ Fr No w w' := by
  go_enter Tryz.func98, Tryz.ntmps98
  go_wp2
  go_ret
  exact ⟨rfl, (Fr.refl w).alloc _⟩

set_option maxRecDepth 100000 in
set_option maxHeartbeats 1600000 in
theorem kind_same (w : World) : Calls Tryz.prog 100 #[.agg #[.int .i64 0, .int .i64 0, .int .i64 1], .agg #[.int .i64 0, .int .i64 0, .int .i64 1]] w fun e w' => e = .returned (.int .i64 1) ∧ Fr No w w' := by
  go_enter Tryz.func100, Tryz.ntmps100
  go_wp2
  go_ret
  exact ⟨rfl, by repeat (first | exact Fr.refl _ | apply Fr.alloc)⟩
set_option maxRecDepth 100000 in
set_option maxHeartbeats 1600000 in
theorem kind_next (w : World) : Calls Tryz.prog 100 #[.agg #[.int .i64 0, .int .i64 0, .int .i64 2], .agg #[.int .i64 0, .int .i64 0, .int .i64 1]] w fun e w' => e = .returned (.int .i64 0) ∧ Fr No w w' := by
  go_enter Tryz.func100, Tryz.ntmps100
  go_wp2
  go_ret
  exact ⟨rfl, by repeat (first | exact Fr.refl _ | apply Fr.alloc)⟩
theorem row_ (win : Nat) (row : Value) (w : World) (hw : w.heap[win]? = some (.cells #[row, .pointer none, .pointer none, .pointer none, .bool true] 152 (0, 0))) : Calls Tryz.prog 99 #[.pointer (some ⟨win, 0, none⟩), .int .i64 0] w fun e w' => e = .returned row ∧ w' = w := by
  have c0 : w.cell? ⟨win, 0, none⟩ = some row := by rw [cell_at hw]; rfl
  go_enter Tryz.func99, Tryz.ntmps99
  go_wp2
  go_ret
  exact ⟨rfl, rfl⟩
end Go.Proofs.YtlcojhddnpmgmaaGreat
