/- A reply's bytes, walked whole. -/
import Derived.Test.YtlcojhddnpmgmaaGreatQ
import Derived.Outline
namespace Go.Proofs.YtlcojhddnpmgmaaGreat
open Go.RowKit

theorem pn_new (w : World) : Pn (w.alloc (.cells #[.slice none 0 0, .int .i64 0] 122)) w.heap.size (w.heap.size + 1) [] :=
  ⟨.slice none 0 0, new_at w _, ⟨rfl, .inl ⟨rfl, rfl⟩⟩, by simp⟩

set_option maxRecDepth 100000 in
set_option maxHeartbeats 1600000 in
theorem written1_ (sb ob rb : Nat) (e n : Nat) (he : e < 256) (hn : n < 256) (w : World) (hs : w.heap[sb]? = some (.cells #[.func (Fn.func 163) #[] #[.pointer (some ⟨rb, 0, none⟩)]] 123 (0, 0))) (ho : w.heap[ob]? = some (.cells #[.slice none 0 0] 27 (0, 0)))
    (hr : w.heap[rb]? = some (.cells (rep e n) 29 (0, 0))) :
    Calls Tryz.prog 209 #[.pointer (some ⟨sb, 0, none⟩), .pointer (some ⟨ob, 0, none⟩)] w fun x w' => ∃ v b c, x = .returned (.tuple #[]) ∧ w'.heap[ob]? = some (.cells #[v] 27 (0, 0)) ∧ SlIs w' v (repB e n) b 0 c ∧ w.heap.size ≤ b ∧ Fr (fun k => k = ob) w w' := by
  have F0 : Fr No w (w.alloc (.cells #[.slice none 0 0, .int .i64 0] 122)) := (Fr.refl w).alloc _
  have HP := Lib.hid (pn_new w)
  have l1 := lt_of_block hs
  have l2 := lt_of_block ho
  have l3 := lt_of_block hr
  have cs : (w.alloc (.cells #[.slice none 0 0, .int .i64 0] 122)).cell? ⟨sb, 0, none⟩ = some (.func (Fn.func 163) #[] #[.pointer (some ⟨rb, 0, none⟩)]) := by rw [cell_at (F0.block_of hs id)]; rfl
  have HO := Lib.hid (F0.block_of ho id)
  have HR := Lib.hid (F0.block_of hr id)
  clear hs ho hr
  go_enter Tryz.func209, Tryz.ntmps209
  go_wp2_with fail
  refine (steps_ w.heap.size (w.heap.size + 1) rb e n he hn _ HP.out HR.out (by omega)).mono ?_
  rintro x w1 ⟨rfl, h1, f1⟩
  have H1 := Lib.hid h1
  have HF1 := Lib.hid f1
  clear h1 f1 cs
  go_wp2_with fail
  refine (pbytes_ _ _ _ _ H1.out (by simp [repB]) (by simp [repB])).mono ?_
  rintro x w2 ⟨v, b, c, rfl, hsl, hb, f2⟩
  have HS := Lib.hid hsl
  have hsz := HF1.out.size
  have ko := f2.block_of (pf_of HF1.out HO.out (by decide) (by omega)) id
  have KO := Lib.hid ko
  clear hsl
  go_wp2_with fail
  refine (nmust_yes _ _).mono ?_
  rintro x w3 ⟨rfl, rfl⟩
  have co : w3.cell? ⟨ob, 0, none⟩ = some (.slice none 0 0) := by rw [cell_at KO.out]; rfl
  have zo := frozen_at KO.out 0
  obtain ⟨rfl, hl2, hlt2, hc2⟩ := HS.out
  simp at hsz
  have FX : Fr No w w3 := (F0.of_no.trans (HF1.out) (fun j hj e => by
    rcases e with e | ⟨e, _⟩ <;> omega)).trans f2 (fun _ _ e => e)
  clear ko
  go_wp2_with fail
  go_end0
  have FS : Fr (fun k => k = ob) w3 (w3.setCell ⟨ob, 0, none⟩ (.slice (some ⟨b, 0, none⟩) (repB e n).length c)) := Fr.setCell (S := fun k => k = ob) (p := ⟨ob, 0, none⟩) (Fr.refl w3) (.inl rfl) _
  refine ⟨_, b, c, rfl, by simpa using setCell_at KO.out 0 (.slice (some ⟨b, 0, none⟩) (repB e n).length c), ⟨rfl, hl2, Nat.lt_of_lt_of_le hlt2 FS.size, fun j y hj => FS.cell_of (hc2 j y hj) (by dsimp only; omega)⟩, by omega, FX.of_no.trans FS (fun _ _ e => e)⟩
end Go.Proofs.YtlcojhddnpmgmaaGreat
