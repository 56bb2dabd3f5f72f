/- Reading a note: going on. Walked. -/
import Derived.Test.YtlcojhddnpmgmaaGreatZg
import Derived.Outline
namespace Go.Proofs.YtlcojhddnpmgmaaGreat
open Go.RowKit

theorem going_ (e b off l c : Nat) (w : World) (he : Ey w e b off l c) : Calls Tryz.prog 105 #[.pointer (some ⟨e, 0, none⟩)] w fun x w' => x = .returned (.tuple #[]) ∧ Fr No w w' := by
  have HE := Lib.hid he
  clear he
  go_enter Tryz.func105, Tryz.ntmps105
  go_wp2_with fail
  refine (efail_ e b off l c w HE.out).mono ?_
  rintro x w1 ⟨rfl, f1⟩
  have F1 := Lib.hid f1
  clear f1
  go_wp2_with fail
  refine (efail_ e b off l c w1 (F1.out.block_of HE.out id)).mono ?_
  rintro x w2 ⟨rfl, f2⟩
  have F2 := Lib.hid (F1.out.trans f2 (fun _ _ e => e))
  clear f2
  go_wp2_with fail
  refine (nmust_yes 0 w2).mono ?_
  rintro x w3 ⟨rfl, rfl⟩
  go_wp2_with fail
  exact bodyPost_end (v := .tuple #[]) (by simp [results, Tryz.results105, go_sem]) rfl ⟨rfl, F2.out⟩
end Go.Proofs.YtlcojhddnpmgmaaGreat
