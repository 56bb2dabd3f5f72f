/- The statement StateKnown walked. -/
import Derived.Test.YtlcojhddnpmgmaaGreatZs
import Derived.Outline
namespace Go.Proofs.YtlcojhddnpmgmaaGreat
open Go.RowKit

set_option maxRecDepth 100000 in
set_option maxHeartbeats 3200000 in
theorem known_ (w0 : World) : Calls Tryz.prog 3 #[] w0 fun e w' => e = .returned (.bool true) ∧ Fr No w0 w' := by
  go_enter Tryz.func3, Tryz.ntmps3
  go_wp2_with fail
  refine (awake_ _).mono ?_
  rintro e wa ⟨rfl, fa⟩
  go_wp2_with fail
  refine (state_new _).mono ?_
  rintro e w1 ⟨L, rfl, f1, a1, l1⟩
  have F1 := Lib.hid (fa.trans f1 (fun _ _ e => e))
  have A1 := Lib.hid a1
  clear f1 a1 fa l1
  go_wp2_with fail
  refine (request_ 0 99 ⟨#[]⟩ _).mono ?_
  rintro e w2 ⟨rfl, f2⟩
  have A2 := Lib.hid (A1.out.no f2)
  have F2 := Lib.hid (F1.out.trans f2 (fun _ _ e => e))
  have HT := Lib.hid (apply_99 w2 L _ A2.out)
  unfold rep req at HT
  clear f2
  unfold req
  go_wp2_with fail
  with_reducible refine HT.out.mono ?_
  rintro e w3 ⟨rfl, f3⟩
  have G3 : Fr No w2 (w3.alloc (.cells #[.int .i64 1, .int .i64 0, .int .i64 0, .int .i64 0, .int .i64 0, .bool false, .slice none 0 0, .slice none 0 0] 29)) := f3.trans ((Fr.refl w3).alloc _) (fun _ _ e => e)
  have A3 := Lib.hid (A2.out.no G3)
  have F3 := Lib.hid (F2.out.trans G3 (fun _ _ e => e))
  have K3 := Lib.hid (new_at w3 (.cells #[.int .i64 1, .int .i64 0, .int .i64 0, .int .i64 0, .int .i64 0, .bool false, .slice none 0 0, .slice none 0 0] 29))
  clear f3 HT G3 F2 A2 F1 A1
  go_wp2_with fail
  generalize w3.heap.size = g1 at *
  generalize w3.alloc (.cells #[.int .i64 1, .int .i64 0, .int .i64 0, .int .i64 0, .int .i64 0, .bool false, .slice none 0 0, .slice none 0 0] 29) = w4 at *
  refine (request_ 0 1 ⟨#[47, 102]⟩ _).mono ?_
  rintro e w5 ⟨rfl, f5⟩
  have A5 := Lib.hid (A3.out.no f5)
  have F5 := Lib.hid (F3.out.trans f5 (fun _ _ e => e))
  have K5 := Lib.hid (f5.block_of K3.out id)
  have HT := Lib.hid (apply_old w5 L _ A5.out)
  unfold rep req at HT
  clear f5 A3 F3 K3
  unfold req
  go_wp2_with fail
  with_reducible refine HT.out.mono ?_
  rintro e w6 ⟨rfl, f6⟩
  have G6 : Fr No w5 (w6.alloc (.cells #[.int .i64 17, .int .i64 0, .int .i64 0, .int .i64 0, .int .i64 0, .bool false, .slice none 0 0, .slice none 0 0] 29)) := f6.trans ((Fr.refl w6).alloc _) (fun _ _ e => e)
  have A6 := Lib.hid (A5.out.no G6)
  have F6 := Lib.hid (F5.out.trans G6 (fun _ _ e => e))
  have K6 := Lib.hid (G6.block_of K5.out id)
  have N6 := Lib.hid (new_at w6 (.cells #[.int .i64 17, .int .i64 0, .int .i64 0, .int .i64 0, .int .i64 0, .bool false, .slice none 0 0, .slice none 0 0] 29))
  clear f6 HT G6 F5 A5 K5
  go_wp2_with fail
  generalize w6.heap.size = g2 at *
  generalize w6.alloc (.cells #[.int .i64 17, .int .i64 0, .int .i64 0, .int .i64 0, .int .i64 0, .bool false, .slice none 0 0, .slice none 0 0] 29) = w7 at *
  refine (request_ 0 10 ⟨#[]⟩ _).mono ?_
  rintro e w8 ⟨rfl, f8⟩
  have A8 := Lib.hid (A6.out.no f8)
  have F8 := Lib.hid (F6.out.trans f8 (fun _ _ e => e))
  have K8 := Lib.hid (f8.block_of K6.out id)
  have N8 := Lib.hid (f8.block_of N6.out id)
  have HT := Lib.hid (apply_boot w8 L _ A8.out)
  unfold rep req at HT
  clear f8 A6 F6 K6 N6
  unfold req
  go_wp2_with fail
  with_reducible refine HT.out.mono ?_
  rintro e w9 ⟨rfl, f9⟩
  have G9 : Fr No w8 (w9.alloc (.cells #[.int .i64 17, .int .i64 0, .int .i64 0, .int .i64 0, .int .i64 0, .bool false, .slice none 0 0, .slice none 0 0] 29)) := f9.trans ((Fr.refl w9).alloc _) (fun _ _ e => e)
  have A9 := Lib.hid (A8.out.no G9)
  have F9 := Lib.hid (F8.out.trans G9 (fun _ _ e => e))
  have c1 : (w9.alloc (.cells #[.int .i64 17, .int .i64 0, .int .i64 0, .int .i64 0, .int .i64 0, .bool false, .slice none 0 0, .slice none 0 0] 29)).cell? ⟨g1, 0, none⟩ = some (.int .i64 1) := by rw [cell_at (G9.block_of K8.out id)]; rfl
  have c2 : (w9.alloc (.cells #[.int .i64 17, .int .i64 0, .int .i64 0, .int .i64 0, .int .i64 0, .bool false, .slice none 0 0, .slice none 0 0] 29)).cell? ⟨g2, 0, none⟩ = some (.int .i64 17) := by rw [cell_at (G9.block_of N8.out id)]; rfl
  clear f9 HT G9 F8 A8 K8 N8
  go_wp2_with fail
  have HC := Lib.hid (clock_ _ L _ A9.out)
  have HL := Lib.hid (life_ _ L _ A9.out rfl)
  generalize (w9.alloc (.cells #[.int .i64 17, .int .i64 0, .int .i64 0, .int .i64 0, .int .i64 0, .bool false, .slice none 0 0, .slice none 0 0] 29)) = w10 at *
  refine HC.out.mono ?_
  rintro e w11 ⟨rfl, rfl⟩
  rw [show (newCon L.root).clock = 0 from rfl]
  go_wp2_with fail
  refine HL.out.mono ?_
  rintro e w12 ⟨rfl, rfl⟩
  go_wp2_with fail
  go_ret
  exact ⟨rfl, F9.out⟩
end Go.Proofs.YtlcojhddnpmgmaaGreat
