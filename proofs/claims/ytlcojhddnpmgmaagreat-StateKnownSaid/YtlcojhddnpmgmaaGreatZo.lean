/- A request done by a state: one that is stale. Walked. -/
import Derived.Test.YtlcojhddnpmgmaaGreatZn
import Derived.Outline
namespace Go.Proofs.YtlcojhddnpmgmaaGreat
open Go.RowKit

set_option maxRecDepth 100000 in
set_option maxHeartbeats 1600000 in
theorem apply_old (w : World) (L : Loc) (C : Con) (h : At w L C) :
    Calls Tryz.prog 15 #[.pointer (some ⟨L.s, 0, none⟩), .agg (req 0 1 ⟨#[47, 102]⟩)] w fun e w' => e = .returned (.agg (rep 17 0)) ∧ Fr No w w' := by
  have HM := Lib.hid (made_ _ L C (h.no (((Fr.refl w).alloc (.cells (req 0 1 ⟨#[47, 102]⟩) 36)).alloc (.cells (rep 0 0) 29))))
  have F := Lib.hid (asking_fr w (req 0 1 ⟨#[47, 102]⟩) (rep 0 0) (rep 0 0))
  have Q := Lib.hid (asking_q w (req 0 1 ⟨#[47, 102]⟩) (rep 0 0) (rep 0 0))
  have R := Lib.hid (asking_r w (req 0 1 ⟨#[47, 102]⟩) (rep 0 0) (rep 0 0))
  have O := Lib.hid (asking_o w (req 0 1 ⟨#[47, 102]⟩) (rep 0 0) (rep 0 0))
  have A := Lib.hid (h.no F.out)
  have c8 : (asking w (req 0 1 ⟨#[47, 102]⟩) (rep 0 0) (rep 0 0)).cell? ⟨L.s, 8, none⟩ = some (.pointer (some ⟨L.win, 0, none⟩)) := by rw [cell_at A.out.s]; rfl
  have HK := Lib.hid (ask_old L.win C.row (asking w (req 0 1 ⟨#[47, 102]⟩) (rep 0 0) (rep 0 0)).drew A.out.win)
  have HOC := Lib.hid (show (rep 17 0).all (·.oneCell') = true from by simp [rep, Value.oneCell'])
  clear h
  have hn := nilf_no
  unfold asking req rep at *
  go_enter Tryz.func15, Tryz.ntmps15
  go_wp2_with fail
  with_reducible refine HM.out.mono ?_
  rintro e w' ⟨rfl, rfl⟩
  go_wp2_with fail
  refine (deed_make _).mono ?_
  rintro e w' ⟨rfl, rfl⟩
  go_wp2_with fail
  generalize (((w.alloc (.cells #[.int .i64 0, .int .i64 0, .int .i64 0, .int .i64 1, .string ⟨#[47, 102]⟩, .string ⟨#[]⟩, .bool false, .bool false, .bool false, .int .i64 0, .int .i64 0, .int .i64 0, .slice none 0 0, .slice none 0 0] 36)).alloc (.cells #[.int .i64 0, .int .i64 0, .int .i64 0, .int .i64 0, .int .i64 0, .bool false, .slice none 0 0, .slice none 0 0] 29)).alloc (.cells #[.int .i64 0, .int .i64 0, .int .i64 0, .int .i64 0, .int .i64 0, .bool false, .slice none 0 0, .slice none 0 0] 29)) = w0 at *
  generalize hb0 : w.heap.size = b0 at *
  have q0 : w0.cell? ⟨b0, 0, none⟩ = some (.int .i64 0) := by rw [cell_at Q.out]; rfl
  have q1 : w0.cell? ⟨b0, 1, none⟩ = some (.int .i64 0) := by rw [cell_at Q.out]; rfl
  have q2 : w0.cell? ⟨b0, 2, none⟩ = some (.int .i64 0) := by rw [cell_at Q.out]; rfl
  go_region_held3 (fun w' => w'.cell? ⟨L.s, 8, none⟩ = some (.pointer (some ⟨L.win, 0, none⟩)) ∧ w'.cell? ⟨b0, 0, none⟩ = some (.int .i64 0) ∧ w'.cell? ⟨b0, 1, none⟩ = some (.int .i64 0) ∧ w'.cell? ⟨b0, 2, none⟩ = some (.int .i64 0)) (first | go_keep | (go_split_ands; refine ⟨?_, ?_, ?_, ?_⟩ <;> exact f1.cell_of (by assumption) id))
    ((go_at_call 53; refine HK.out.mono ?_; rintro e w1 ⟨rfl, f1⟩))
  all_goals
    have F1 : Fr No w0 w1 := (Fr.refl w0).drew.trans f1 (fun _ _ e => e)
    have Q1 := Lib.hid (F1.block_of Q.out id)
    have HS := Lib.hid (asked_old w1 L)
    unfold req rep at HS
    clear q0 q1 q2 c8
    go_wp2_with (refine wpList_load_row rfl 36 (.tmp 3) rfl b0 rfl 36 _ (0, 0) _ Q1.out Tryz.underlying36 rfl Tryz.size36 ?_)
    with_reducible refine HS.out.mono ?_
    rintro e w2 ⟨rfl, f2⟩
    have F2 : Fr No w0 w2 := F1.trans f2 (fun _ _ e => e)
    subst hb0
    have K2 := Lib.hid (F2.block_of O.out id)
    obtain ⟨c1, c4, z4, KO, KR, FX⟩ := told F2 A.out F.out O.out R.out (.int .i64 17) (.int .i64 0)
    go_wp2_with (first | (refine wpList_store_row rfl 29 (.tmp 5) _ rfl (w.heap.size + 1 + 1) #[.int .i64 17, .int .i64 0, .int .i64 0, .int .i64 0, .int .i64 0, .bool false, .slice none 0 0, .slice none 0 0] rfl rfl 29 _ K2.out Tryz.size29 rfl HOC.out ?_) | (refine wpList_load_row rfl 29 (.tmp 5) rfl (w.heap.size + 1 + 1) rfl 29 _ (0, 0) _ KO.out Tryz.underlying29 rfl Tryz.size29 ?_) | (refine wpList_store_row rfl 29 (.tmp 4) _ rfl (w.heap.size + 1) #[.int .i64 17, .int .i64 0, .int .i64 0, .int .i64 0, .int .i64 0, .bool false, .slice none 0 0, .slice none 0 0] rfl rfl 29 _ KR.out Tryz.size29 rfl HOC.out ?_))
    exact bodyPost_ret (v := .agg #[.int .i64 17, .int .i64 0, .int .i64 0, .int .i64 0, .int .i64 0, .bool false, .slice none 0 0, .slice none 0 0]) (results_cell_row rfl _ _ (w.heap.size + 1) 29 _ (0, 0) _ rfl (setRow_at KR.out) Tryz.underlying29 rfl Tryz.size29) rfl ⟨rfl, FX.out.setRow (.inr (by omega)) _⟩
end Go.Proofs.YtlcojhddnpmgmaaGreat
