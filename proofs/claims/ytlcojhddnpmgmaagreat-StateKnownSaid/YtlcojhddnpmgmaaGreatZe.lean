/- The eye's bytes. Walked. -/
import Derived.Test.YtlcojhddnpmgmaaGreatZd
import Derived.Outline
namespace Go.Proofs.YtlcojhddnpmgmaaGreat
open Go.RowKit

set_option maxRecDepth 100000 in
theorem stepr (e b off l c p q r : Nat) (m : Int) (hm : 0 ≤ m) (w : World) (he : Ey w e b off l c) (hl : l ≤ c) (hn : 2 ≤ l) (hne : b ≠ e) (hb : b < w.heap.size) (kp : w.heap[p]? = some (.cells #[.int .i64 m] 3 (0, 0))) (kq : w.heap[q]? = some (.cells #[.pointer (some ⟨e, 0, none⟩)] 171 (0, 0))) (kr : w.heap[r]? = some (.cells #[.slice none 0 0] 27 (0, 0))) (h0 : w.cell? ⟨b, off, none⟩ = some (.int .u8 0)) (h1 : w.cell? ⟨b, off + 1, none⟩ = some (.int .u8 0)) :
    Calls Tryz.prog 159 #[.pointer (some ⟨p, 0, none⟩), .pointer (some ⟨q, 0, none⟩), .pointer (some ⟨r, 0, none⟩)] w fun x w' => x = .returned (.tuple #[]) ∧ (∃ v' b' c', w'.heap[r]? = some (.cells #[v'] 27 (0, 0)) ∧ SlIs w' v' [] b' 0 c') ∧ (∃ off' c', Ey w' e b off' (l - 2) c') ∧ Fr (fun k => k = e ∨ k = r) w w' := by
  have c1 : w.cell? ⟨p, 0, none⟩ = some (.int .i64 m) := by rw [cell_at kp]; rfl
  have c2 : w.cell? ⟨q, 0, none⟩ = some (.pointer (some ⟨e, 0, none⟩)) := by rw [cell_at kq]; rfl
  have t1 : decide (m < 0) = false := by simp; omega
  have HN := Lib.hid (number2_0 e b off l c w he hl hn hne h0 h1)
  have KR := Lib.hid kr
  have HE := Lib.hid he
  have KP := Lib.hid kp
  have KQ := Lib.hid kq
  clear he kp kq kr
  go_enter Tryz.func159, Tryz.ntmps159
  go_wp2_with fail
  refine HN.out.mono ?_
  rintro x w1 ⟨rfl, ⟨o1, c1', e1, l1, g1⟩, f1⟩
  have E1 := Lib.hid e1
  have F1 := Lib.hid f1
  have G1 := Lib.hid g1
  have c1 : w1.cell? ⟨p, 0, none⟩ = some (.int .i64 m) := f1.cell_of c1 (by have := KP.out; intro e'; dsimp only at e'; rw [e', HE.out] at this; simp at this)
  have c2 : w1.cell? ⟨q, 0, none⟩ = some (.pointer (some ⟨e, 0, none⟩)) := f1.cell_of c2 (by have := KQ.out; intro e'; dsimp only at e'; rw [e', HE.out] at this; simp at this)
  clear e1 f1 g1
  go_wp2_with fail
  refine (take_ e b o1 (l - 2) c1' 0 w1 E1.out l1 (by omega)).mono ?_
  rintro x w2 ⟨rfl, ⟨o2, c2', e2, l2, g2⟩, f2⟩
  have E2 := Lib.hid e2
  have F2 := Lib.hid (F1.out.trans f2 (fun _ _ e => e))
  have hb2 : b < w2.heap.size := Nat.lt_of_lt_of_le hb F2.out.size
  clear e2 f2 g2
  go_wp2_with fail
  refine (clone_ (.slice (some ⟨b, o1, none⟩) 0 0) [] b o1 0 w2 ⟨rfl, by simp, hb2, fun j x hj => by simp at hj⟩ (by simp)).mono ?_
  rintro x w4 ⟨v', b', c4', rfl, sl, hb', f4⟩
  obtain ⟨rfl, sl2⟩ := sl
  have SL := Lib.hid sl2
  have F4 := Lib.hid f4
  have hre : r ≠ e := by have := KR.out; intro e'; rw [e', HE.out] at this; simp at this
  have k4 := f4.block_of (F2.out.block_of KR.out hre) id
  have z4 := frozen_at k4 0
  have c4 : w4.cell? ⟨r, 0, none⟩ = some (.slice none 0 0) := by rw [cell_at k4]; rfl
  have K4 := Lib.hid k4
  clear sl2 f4 k4
  go_wp2_with fail
  have FS : Fr (fun k => k = r) w4 (w4.setCell ⟨r, 0, none⟩ (.slice (some ⟨b', 0, none⟩) 0 c4')) := Fr.setCell (S := fun k => k = r) (p := ⟨r, 0, none⟩) (Fr.refl w4) (.inl rfl) _
  exact bodyPost_end (v := .tuple #[]) (by simp [results, Tryz.results159, go_sem]) rfl ⟨rfl, ⟨_, b', c4', by simpa using setCell_at K4.out 0 (.slice (some ⟨b', 0, none⟩) 0 c4'), rfl, SL.out.1, Nat.lt_of_lt_of_le SL.out.2.1 FS.size, fun j y hj => by simp at hj⟩, ⟨o2, c2', FS.block_of (F4.out.block_of E2.out id) (fun e' => hre e'.symm)⟩, ((F2.out.trans F4.out (fun _ _ e => e.elim)).mono (fun _ _ e => .inl e)).trans FS (fun _ _ e => .inr e)⟩
end Go.Proofs.YtlcojhddnpmgmaaGreat
