/- Reading a note: how many. Walked. -/
import Derived.Test.YtlcojhddnpmgmaaGreatZh
import Derived.Outline
namespace Go.Proofs.YtlcojhddnpmgmaaGreat
open Go.RowKit

theorem count_ (e b off l c : Nat) (w : World) (he : Ey w e b off l c) (hl : l ≤ c) (hn : 2 ≤ l) (hne : b ≠ e) (h0 : w.cell? ⟨b, off, none⟩ = some (.int .u8 0)) (h1 : w.cell? ⟨b, off + 1, none⟩ = some (.int .u8 0)) :
    Calls Tryz.prog 108 #[.pointer (some ⟨e, 0, none⟩)] w fun x w' => x = .returned (.int .i64 0) ∧ (∃ off' c', Ey w' e b off' (l - 2) c' ∧ l - 2 ≤ c' ∧ (l - 2 = 0 ∨ off' = off + 2)) ∧ Fr (fun k => k = e) w w' := by
  have HN := Lib.hid (enum2_0 e b off l c w he hl hn hne h0 h1)
  clear he h0 h1
  go_enter Tryz.func108, Tryz.ntmps108
  go_wp2_with fail
  refine HN.out.mono ?_
  rintro x w1 ⟨rfl, ⟨o1, c1, e1, l1, g1⟩, f1⟩
  have E1 := Lib.hid e1
  have F1 := Lib.hid f1
  have G1 := Lib.hid g1
  have L1 := Lib.hid l1
  clear e1 f1 g1 l1
  go_wp2_with fail
  refine (going_ e b o1 (l - 2) c1 w1 E1.out).mono ?_
  rintro x w2 ⟨rfl, f2⟩
  have F2 := Lib.hid f2
  clear f2
  go_wp2_with fail
  refine (nmust_yes _ w2).mono ?_
  rintro x w3 ⟨rfl, rfl⟩
  go_wp2_with fail
  exact bodyPost_ret (v := .int .i64 0) (by simp [results, Tryz.results108, go_sem]) rfl ⟨rfl, ⟨o1, c1, F2.out.block_of E1.out id, L1.out, G1.out⟩, F1.out.trans F2.out (fun _ _ e => e.elim)⟩
end Go.Proofs.YtlcojhddnpmgmaaGreat
