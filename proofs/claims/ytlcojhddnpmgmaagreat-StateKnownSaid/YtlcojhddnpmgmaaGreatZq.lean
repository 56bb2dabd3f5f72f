/- A request done by a state: what is to be made is there; it is asked again. Walked. -/
import Derived.Test.YtlcojhddnpmgmaaGreatZp
import Derived.Outline
namespace Go.Proofs.YtlcojhddnpmgmaaGreat
open Go.RowKit

set_option maxRecDepth 100000 in
set_option maxHeartbeats 1600000 in
theorem apply_there (w : World) (L : Loc) (C : Con) (h : At w L C) (r0 : Nat) (rv vf : Value) (i : Nat) (hrow : C.row = .pointer (some ⟨r0, 0, none⟩)) (hr0 : w.heap[r0]? = some (.cells #[.int .i64 0, .int .i64 0, .int .i64 1, rv] 119 (0, 0))) (hcl : 0 ≤ C.clock ∧ C.clock ≤ 1000) (h1 : Instr.findNow (.int .i64) (.int .i64 1) C.ths.toList 0 = some (some (0, .pointer (some ⟨L.root, 0, none⟩))))
    (hf : Instr.findNow .string (.string ⟨#[102]⟩) C.ins.toList 0 = some (some (i, vf))) :
    Calls Tryz.prog 15 #[.pointer (some ⟨L.s, 0, none⟩), .agg (req 2 1 ⟨#[47, 102]⟩)] w fun e w' => ∃ r v b c, e = .returned (.agg (rep 7 0)) ∧ At w' L { tick C with row := .pointer (some ⟨r, 0, none⟩) } ∧ w'.heap[r]? = some (.cells #[.int .i64 0, .int .i64 0, .int .i64 2, v] 119 (0, 0)) ∧ SlIs w' v (repB 7 0) b 0 c ∧ Fr (Turn L) w w' := by
  have HM := Lib.hid (made_ _ L C (h.no (((Fr.refl w).alloc (.cells (req 2 1 ⟨#[47, 102]⟩) 36)).alloc (.cells (rep 0 0) 29))))
  have F := Lib.hid (asking_fr w (req 2 1 ⟨#[47, 102]⟩) (rep 0 0) (rep 0 0))
  have Q := Lib.hid (asking_q w (req 2 1 ⟨#[47, 102]⟩) (rep 0 0) (rep 0 0))
  have R := Lib.hid (asking_r w (req 2 1 ⟨#[47, 102]⟩) (rep 0 0) (rep 0 0))
  have O := Lib.hid (asking_o w (req 2 1 ⟨#[47, 102]⟩) (rep 0 0) (rep 0 0))
  have A := Lib.hid (h.no F.out)
  have T := Lib.hid h.turn
  have c8 : (asking w (req 2 1 ⟨#[47, 102]⟩) (rep 0 0) (rep 0 0)).cell? ⟨L.s, 8, none⟩ = some (.pointer (some ⟨L.win, 0, none⟩)) := by rw [cell_at A.out.s]; rfl
  have R0 := Lib.hid (F.out.block_of hr0 id)
  have HK := Lib.hid (ask_fresh L.win r0 rv (asking w (req 2 1 ⟨#[47, 102]⟩) (rep 0 0) (rep 0 0)).drew (by rw [← hrow]; exact A.out.win) R0.out)
  have HX := Lib.hid (And.intro hrow (And.intro hcl (And.intro h1 hf)))
  have HOC := Lib.hid (show (rep 7 0).all (·.oneCell') = true from by simp [rep, Value.oneCell'])
  clear h hrow hcl h1 hf hr0
  have hn := nilf_no
  unfold asking req rep at *
  go_enter Tryz.func15, Tryz.ntmps15
  go_wp2_with fail
  with_reducible refine HM.out.mono ?_
  rintro e w' ⟨rfl, rfl⟩
  go_wp2_with fail
  refine (deed_make _).mono ?_
  rintro e w' ⟨rfl, rfl⟩
  go_wp2_with fail
  generalize (((w.alloc (.cells #[.int .i64 0, .int .i64 0, .int .i64 2, .int .i64 1, .string ⟨#[47, 102]⟩, .string ⟨#[]⟩, .bool false, .bool false, .bool false, .int .i64 0, .int .i64 0, .int .i64 0, .slice none 0 0, .slice none 0 0] 36)).alloc (.cells #[.int .i64 0, .int .i64 0, .int .i64 0, .int .i64 0, .int .i64 0, .bool false, .slice none 0 0, .slice none 0 0] 29)).alloc (.cells #[.int .i64 0, .int .i64 0, .int .i64 0, .int .i64 0, .int .i64 0, .bool false, .slice none 0 0, .slice none 0 0] 29)) = w0 at *
  generalize hb0 : w.heap.size = b0 at *
  have q0 : w0.cell? ⟨b0, 0, none⟩ = some (.int .i64 0) := by rw [cell_at Q.out]; rfl
  have q1 : w0.cell? ⟨b0, 1, none⟩ = some (.int .i64 0) := by rw [cell_at Q.out]; rfl
  have q2 : w0.cell? ⟨b0, 2, none⟩ = some (.int .i64 2) := by rw [cell_at Q.out]; rfl
  go_region_held3 (fun w' => w'.cell? ⟨L.s, 8, none⟩ = some (.pointer (some ⟨L.win, 0, none⟩)) ∧ w'.cell? ⟨b0, 0, none⟩ = some (.int .i64 0) ∧ w'.cell? ⟨b0, 1, none⟩ = some (.int .i64 0) ∧ w'.cell? ⟨b0, 2, none⟩ = some (.int .i64 2)) (first | go_keep | (go_split_ands; refine ⟨?_, ?_, ?_, ?_⟩ <;> exact f1.cell_of (by assumption) id))
    ((go_at_call 53; refine HK.out.mono ?_; rintro e w1 ⟨rfl, f1⟩))
  all_goals
    have F1 : Fr No w0 w1 := (Fr.refl w0).drew.trans f1 (fun _ _ e => e)
    have Q1 := Lib.hid (F1.block_of Q.out id)
    have HS := Lib.hid (asked_fresh w1 L C (A.out.no F1) r0 rv vf i HX.out.1 (F1.block_of R0.out id) HX.out.2.1 HX.out.2.2.1 HX.out.2.2.2)
    unfold req rep at HS
    clear q0 q1 q2 c8
    go_wp2_with (refine wpList_load_row rfl 36 (.tmp 3) rfl b0 rfl 36 _ (0, 0) _ Q1.out Tryz.underlying36 rfl Tryz.size36 ?_)
    with_reducible refine HS.out.mono ?_
    rintro e w2 ⟨r, v, b, c, rfl, a2, r2, s2, f2⟩
    subst hb0
    have F2 : Fr (Turn L) w w2 := (F.out.of_no.trans F1 (fun _ _ e => e.elim)).trans f2 (fun _ _ e => e)
    have nt : ∀ k, w.heap.size ≤ k → ¬ Turn L k := fun k hk e => by have := T.out k e; omega
    have K2 := Lib.hid (f2.block_of (F1.block_of O.out id) (nt _ (by omega)))
    have K1 := Lib.hid (f2.block_of (F1.block_of R.out id) (nt _ (by omega)))
    have A2 := Lib.hid a2
    have R2 := Lib.hid r2
    have S2 := Lib.hid s2
    have HF2 := Lib.hid F2
    clear a2 r2 s2 f2 F2 nt HS HK HM
    obtain ⟨c1, c4, z4, KO, KR, FX⟩ := told2 A2.out HF2.out K2.out K1.out (.int .i64 7) (.int .i64 0)
    go_wp2_with (first | (refine wpList_store_row rfl 29 (.tmp 5) _ rfl (w.heap.size + 1 + 1) #[.int .i64 7, .int .i64 0, .int .i64 0, .int .i64 0, .int .i64 0, .bool false, .slice none 0 0, .slice none 0 0] rfl rfl 29 _ K2.out Tryz.size29 rfl HOC.out ?_) | (refine wpList_load_row rfl 29 (.tmp 5) rfl (w.heap.size + 1 + 1) rfl 29 _ (0, 0) _ KO.out Tryz.underlying29 rfl Tryz.size29 ?_) | (refine wpList_store_row rfl 29 (.tmp 4) _ rfl (w.heap.size + 1) #[.int .i64 7, .int .i64 0, .int .i64 0, .int .i64 0, .int .i64 0, .bool false, .slice none 0 0, .slice none 0 0] rfl rfl 29 _ KR.out Tryz.size29 rfl HOC.out ?_))
    generalize (w2.setRow (w.heap.size + 1 + 1) #[.int .i64 7, .int .i64 0, .int .i64 0, .int .i64 0, .int .i64 0, .bool false, .slice none 0 0, .slice none 0 0]).setCell ⟨w.heap.size + 1 + 1, 4, none⟩ (.int .i64 0) = w3 at *
    have FY : Fr (fun k => k = w.heap.size + 1) w3 (w3.setRow (w.heap.size + 1) #[.int .i64 7, .int .i64 0, .int .i64 0, .int .i64 0, .int .i64 0, .bool false, .slice none 0 0, .slice none 0 0]) := Fr.setRow (S := fun k => k = w.heap.size + 1) (Fr.refl w3) (.inl rfl) _
    have KF := setRow_at (cs' := #[.int .i64 7, .int .i64 0, .int .i64 0, .int .i64 0, .int .i64 0, .bool false, .slice none 0 0, .slice none 0 0]) KR.out
    generalize w3.setRow (w.heap.size + 1) #[.int .i64 7, .int .i64 0, .int .i64 0, .int .i64 0, .int .i64 0, .bool false, .slice none 0 0, .slice none 0 0] = w4 at *
    exact bodyPost_ret (v := .agg #[.int .i64 7, .int .i64 0, .int .i64 0, .int .i64 0, .int .i64 0, .bool false, .slice none 0 0, .slice none 0 0]) (results_cell_row rfl _ _ (w.heap.size + 1) 29 _ (0, 0) _ rfl KF Tryz.underlying29 rfl Tryz.size29) rfl
      ⟨r, v, b, c, rfl, (A2.out.far K2.out FX.out).far KR.out FY, kept_row KR.out FY (kept_row K2.out FX.out R2.out), kept_sl (x := 0) KR.out rfl rfl FY (kept_sl (x := 0) K2.out rfl rfl FX.out S2.out), (HF2.out.trans FX.out (fun j hj e => by omega)).trans FY (fun j hj e => by omega)⟩

set_option maxRecDepth 100000 in
set_option maxHeartbeats 1600000 in
theorem apply_again (w : World) (L : Loc) (C : Con) (h : At w L C) (r0 : Nat) (rv : Value) (b c : Nat) (hrow : C.row = .pointer (some ⟨r0, 0, none⟩)) (hr0 : w.heap[r0]? = some (.cells #[.int .i64 0, .int .i64 0, .int .i64 1, rv] 119 (0, 0))) (hs : SlIs w rv (repB 0 2) b 0 c) :
    Calls Tryz.prog 15 #[.pointer (some ⟨L.s, 0, none⟩), .agg (req 1 1 ⟨#[47, 102]⟩)] w fun e w' => ∃ b' c', e = .returned (.agg #[.int .i64 0, .int .i64 2, .int .i64 0, .int .i64 0, .int .i64 0, .bool false, .slice none 0 0, .slice (some ⟨b', 0, none⟩) 0 c']) ∧ Fr No w w' := by
  have HM := Lib.hid (made_ _ L C (h.no (((Fr.refl w).alloc (.cells (req 1 1 ⟨#[47, 102]⟩) 36)).alloc (.cells (rep 0 0) 29))))
  have F := Lib.hid (asking_fr w (req 1 1 ⟨#[47, 102]⟩) (rep 0 0) (rep 0 0))
  have Q := Lib.hid (asking_q w (req 1 1 ⟨#[47, 102]⟩) (rep 0 0) (rep 0 0))
  have R := Lib.hid (asking_r w (req 1 1 ⟨#[47, 102]⟩) (rep 0 0) (rep 0 0))
  have A := Lib.hid (h.no F.out)
  have c8 : (asking w (req 1 1 ⟨#[47, 102]⟩) (rep 0 0) (rep 0 0)).cell? ⟨L.s, 8, none⟩ = some (.pointer (some ⟨L.win, 0, none⟩)) := by rw [cell_at A.out.s]; rfl
  have HK := Lib.hid (ask_again L.win r0 rv (repB 0 2) b 0 c (asking w (req 1 1 ⟨#[47, 102]⟩) (rep 0 0) (rep 0 0)).drew (by rw [← hrow]; exact A.out.win) (F.out.block_of hr0 id) ⟨hs.1, hs.2.1, Nat.lt_of_lt_of_le hs.2.2.1 F.out.size, fun j y hj => F.out.cell_of (hs.2.2.2 j y hj) id⟩ (by decide))
  clear h hrow hr0 hs
  have hn := nilf_no
  unfold asking req rep at *
  go_enter Tryz.func15, Tryz.ntmps15
  go_wp2_with fail
  with_reducible refine HM.out.mono ?_
  rintro e w' ⟨rfl, rfl⟩
  go_wp2_with fail
  refine (deed_make _).mono ?_
  rintro e w' ⟨rfl, rfl⟩
  go_wp2_with fail
  generalize (((w.alloc (.cells #[.int .i64 0, .int .i64 0, .int .i64 1, .int .i64 1, .string ⟨#[47, 102]⟩, .string ⟨#[]⟩, .bool false, .bool false, .bool false, .int .i64 0, .int .i64 0, .int .i64 0, .slice none 0 0, .slice none 0 0] 36)).alloc (.cells #[.int .i64 0, .int .i64 0, .int .i64 0, .int .i64 0, .int .i64 0, .bool false, .slice none 0 0, .slice none 0 0] 29)).alloc (.cells #[.int .i64 0, .int .i64 0, .int .i64 0, .int .i64 0, .int .i64 0, .bool false, .slice none 0 0, .slice none 0 0] 29)) = w0 at *
  generalize hb0 : w.heap.size = b0 at *
  have q0 : w0.cell? ⟨b0, 0, none⟩ = some (.int .i64 0) := by rw [cell_at Q.out]; rfl
  have q1 : w0.cell? ⟨b0, 1, none⟩ = some (.int .i64 0) := by rw [cell_at Q.out]; rfl
  have q2 : w0.cell? ⟨b0, 2, none⟩ = some (.int .i64 1) := by rw [cell_at Q.out]; rfl
  go_region_held3 (fun w' => w'.cell? ⟨L.s, 8, none⟩ = some (.pointer (some ⟨L.win, 0, none⟩)) ∧ w'.cell? ⟨b0, 0, none⟩ = some (.int .i64 0) ∧ w'.cell? ⟨b0, 1, none⟩ = some (.int .i64 0) ∧ w'.cell? ⟨b0, 2, none⟩ = some (.int .i64 1)) (first | go_keep | (go_split_ands; refine ⟨?_, ?_, ?_, ?_⟩ <;> exact f1.cell_of (by assumption) id))
    ((go_at_call 53; refine HK.out.mono ?_; rintro e w1 ⟨v1, b1, c1, rfl, ⟨rfl, s1⟩, hb1, f1⟩))
  all_goals
    have F1 : Fr No w0 w1 := (Fr.refl w0).drew.trans f1 (fun _ _ e => e)
    have HS := Lib.hid (decode_ _ b1 0 c1 w1 ⟨rfl, s1⟩)
    clear q0 q1 q2 c8
    go_wp2_with fail
    with_reducible refine HS.out.mono ?_
    rintro e w2 ⟨b2, c2, rfl, f2⟩
    have F2 := Lib.hid (F1.trans f2 (fun _ _ e => e))
    have R2 := Lib.hid (F2.out.block_of R.out id)
    have f3 : Fr No w2 (w2.alloc (.cells #[.int .i64 0, .int .i64 2, .int .i64 0, .int .i64 0, .int .i64 0, .bool false, .slice none 0 0, .slice (some ⟨b2, 0, none⟩) 0 c2] 29)) := (Fr.refl w2).alloc _
    have R3 := Lib.hid (f3.block_of R2.out id)
    have F3 := Lib.hid ((F.out.trans F2.out (fun _ _ e => e)).trans f3 (fun _ _ e => e))
    have HOC := Lib.hid (show (#[.int .i64 0, .int .i64 2, .int .i64 0, .int .i64 0, .int .i64 0, .bool false, .slice none 0 0, .slice (some ⟨b2, 0, none⟩) 0 c2] : Array Value).all (·.oneCell') = true from by simp [Value.oneCell'])
    clear f2 f1 F1 HS HK f3
    go_wp2_with (refine wpList_store_row rfl 29 (.tmp 4) (.tmp 35) rfl (b0 + 1) #[.int .i64 0, .int .i64 2, .int .i64 0, .int .i64 0, .int .i64 0, .bool false, .slice none 0 0, .slice (some ⟨b2, 0, none⟩) 0 c2] rfl rfl 29 _ R3.out Tryz.size29 rfl HOC.out ?_)
    exact bodyPost_ret (v := .agg #[.int .i64 0, .int .i64 2, .int .i64 0, .int .i64 0, .int .i64 0, .bool false, .slice none 0 0, .slice (some ⟨b2, 0, none⟩) 0 c2]) (results_cell_row rfl _ _ (b0 + 1) 29 _ (0, 0) _ rfl (setRow_at R3.out) Tryz.underlying29 rfl Tryz.size29) rfl ⟨b2, c2, rfl, F3.out.setRow (.inr (by omega)) _⟩
end Go.Proofs.YtlcojhddnpmgmaaGreat
