/- A request done by a state: a file is made; it is there. Walked. -/
import Derived.Test.YtlcojhddnpmgmaaGreatZo
import Derived.Outline
namespace Go.Proofs.YtlcojhddnpmgmaaGreat
open Go.RowKit

theorem At.turn {w : World} {L : Loc} {C : Con} (h : At w L C) (k : Nat) (hk : Turn L k) : k < w.heap.size := by
  rcases hk with e | e | e | e | e
  · rw [e]; exact lt_of_block h.s
  · rw [e]; exact lt_of_block h.win
  · rw [e]; exact lt_of_block h.th
  · rw [e]; exact lt_of_block h.rin
  · rw [e]; exact lt_of_block h.fl
/-- what was done is told: the world behind the reply's row and the swaps in it. -/
theorem told2 {w w1 : World} {L : Loc} {C : Con} {ro rr : Array Value} (a : At w1 L C) (f : Fr (Turn L) w w1) (ko : w1.heap[w.heap.size + 1 + 1]? = some (.cells ro 29 (0, 0))) (kr : w1.heap[w.heap.size + 1]? = some (.cells rr 29 (0, 0))) (x n : Value) :
    (w1.setRow (w.heap.size + 1 + 1) #[x, n, .int .i64 0, .int .i64 0, .int .i64 0, .bool false, .slice none 0 0, .slice none 0 0]).cell? ⟨L.s, 1, none⟩ = some (.int .i64 0) ∧
    (w1.setRow (w.heap.size + 1 + 1) #[x, n, .int .i64 0, .int .i64 0, .int .i64 0, .bool false, .slice none 0 0, .slice none 0 0]).cell? ⟨w.heap.size + 1 + 1, 4, none⟩ = some (.int .i64 0) ∧
    (w1.setRow (w.heap.size + 1 + 1) #[x, n, .int .i64 0, .int .i64 0, .int .i64 0, .bool false, .slice none 0 0, .slice none 0 0]).frozen? ⟨w.heap.size + 1 + 1, 4, none⟩ = false ∧
    Hid (((w1.setRow (w.heap.size + 1 + 1) #[x, n, .int .i64 0, .int .i64 0, .int .i64 0, .bool false, .slice none 0 0, .slice none 0 0]).setCell ⟨w.heap.size + 1 + 1, 4, none⟩ (.int .i64 0)).heap[w.heap.size + 1 + 1]? = some (.cells #[x, n, .int .i64 0, .int .i64 0, .int .i64 0, .bool false, .slice none 0 0, .slice none 0 0] 29 (0, 0))) ∧
    Hid (((w1.setRow (w.heap.size + 1 + 1) #[x, n, .int .i64 0, .int .i64 0, .int .i64 0, .bool false, .slice none 0 0, .slice none 0 0]).setCell ⟨w.heap.size + 1 + 1, 4, none⟩ (.int .i64 0)).heap[w.heap.size + 1]? = some (.cells rr 29 (0, 0))) ∧
    Hid (Fr (fun k => k = w.heap.size + 1 + 1) w1 ((w1.setRow (w.heap.size + 1 + 1) #[x, n, .int .i64 0, .int .i64 0, .int .i64 0, .bool false, .slice none 0 0, .slice none 0 0]).setCell ⟨w.heap.size + 1 + 1, 4, none⟩ (.int .i64 0))) := by
  have k1 := setRow_at (cs' := #[x, n, .int .i64 0, .int .i64 0, .int .i64 0, .bool false, .slice none 0 0, .slice none 0 0]) ko
  have fs : Fr (fun k => k = w.heap.size + 1 + 1) w1 (w1.setRow (w.heap.size + 1 + 1) #[x, n, .int .i64 0, .int .i64 0, .int .i64 0, .bool false, .slice none 0 0, .slice none 0 0]) := Fr.setRow (S := fun k => k = w.heap.size + 1 + 1) (Fr.refl w1) (.inl rfl) _
  have ft : Fr (fun k => k = w.heap.size + 1 + 1) w1 ((w1.setRow (w.heap.size + 1 + 1) #[x, n, .int .i64 0, .int .i64 0, .int .i64 0, .bool false, .slice none 0 0, .slice none 0 0]).setCell ⟨w.heap.size + 1 + 1, 4, none⟩ (.int .i64 0)) := fs.setCell (.inl rfl) _
  have hne : L.s ≠ w.heap.size + 1 + 1 := by intro e; have := a.s; rw [e, ko] at this; simp at this
  refine ⟨?_, ?_, frozen_at k1 4, Lib.hid ?_, Lib.hid (ft.block_of kr (by omega)), Lib.hid ft⟩
  · rw [cell_at (fs.block_of a.s hne)]; rfl
  · rw [cell_at k1]; rfl
  · simpa using setCell_at k1 4 (.int .i64 0)
/-- a row and its bytes stand when a reply is written. -/
theorem kept_row {w w' : World} {b r : Nat} {cs q : Array Value} {fz : Nat × Nat} (hb : w.heap[b]? = some (.cells cs 29 fz)) (f : Fr (fun k => k = b) w w') (hr : w.heap[r]? = some (.cells q 119 (0, 0))) : w'.heap[r]? = some (.cells q 119 (0, 0)) :=
  f.block_of hr (by intro e; rw [e, hb] at hr; simp at hr)
theorem kept_sl {w w' : World} {b : Nat} {cs : Array Value} {fz : Nat × Nat} {v : Value} {bs : List UInt8} {g off c : Nat} {y : UInt8} {x : Int} (hb : w.heap[b]? = some (.cells cs 29 fz)) (hx : cs[off]? = some (.int .i64 x)) (h0 : bs[0]? = some y) (f : Fr (fun k => k = b) w w') (h : SlIs w v bs g off c) : SlIs w' v bs g off c := by
  have hne : g ≠ b := by
    intro e
    have := h.2.2.2 0 y h0
    rw [e, Nat.add_zero, cell_at hb, hx] at this
    simp at this
  exact ⟨h.1, h.2.1, Nat.lt_of_lt_of_le h.2.2.1 f.size, fun j y hj => f.cell_of (h.2.2.2 j y hj) hne⟩

set_option maxRecDepth 100000 in
set_option maxHeartbeats 1600000 in
theorem apply_new (w : World) (L : Loc) (C : Con) (h : At w L C) (hrow : C.row = .pointer none) (hcl : 0 ≤ C.clock ∧ C.clock ≤ 1000) (hsz : C.ths.size < 128) (h0 : Instr.findNow (.int .i64) (.int .i64 1) C.ths.toList 0 = some (some (0, .pointer (some ⟨L.root, 0, none⟩))))
    (h1 : ∀ x : Nat, Instr.findNow (.int .i64) (.int .i64 1) (C.ths.push { key := .int .i64 2, val := .pointer (some ⟨x, 0, none⟩), born := C.tc }).toList 0 = some (some (0, .pointer (some ⟨L.root, 0, none⟩))))
    (h2 : Instr.findNow (.int .i64) (.int .i64 2) C.ths.toList 0 = some none) (hf : Instr.findNow .string (.string ⟨#[102]⟩) C.ins.toList 0 = some none) (h3 : Instr.findNow (.int .i64) (.int .i64 2) C.fls.toList 0 = some none) :
    Calls Tryz.prog 15 #[.pointer (some ⟨L.s, 0, none⟩), .agg (req 1 1 ⟨#[47, 102]⟩)] w fun e w' => ∃ x m r v b c, e = .returned (.agg (rep 0 2)) ∧ At w' L { (tick C).file x m with row := .pointer (some ⟨r, 0, none⟩) } ∧ w'.heap[r]? = some (.cells #[.int .i64 0, .int .i64 0, .int .i64 1, v] 119 (0, 0)) ∧ SlIs w' v (repB 0 2) b 0 c ∧ Fr (Turn L) w w' := by
  have HM := Lib.hid (made_ _ L C (h.no (((Fr.refl w).alloc (.cells (req 1 1 ⟨#[47, 102]⟩) 36)).alloc (.cells (rep 0 0) 29))))
  have F := Lib.hid (asking_fr w (req 1 1 ⟨#[47, 102]⟩) (rep 0 0) (rep 0 0))
  have Q := Lib.hid (asking_q w (req 1 1 ⟨#[47, 102]⟩) (rep 0 0) (rep 0 0))
  have R := Lib.hid (asking_r w (req 1 1 ⟨#[47, 102]⟩) (rep 0 0) (rep 0 0))
  have O := Lib.hid (asking_o w (req 1 1 ⟨#[47, 102]⟩) (rep 0 0) (rep 0 0))
  have A := Lib.hid (h.no F.out)
  have T := Lib.hid h.turn
  have c8 : (asking w (req 1 1 ⟨#[47, 102]⟩) (rep 0 0) (rep 0 0)).cell? ⟨L.s, 8, none⟩ = some (.pointer (some ⟨L.win, 0, none⟩)) := by rw [cell_at A.out.s]; rfl
  have HK := Lib.hid (ask_new L.win 1 (asking w (req 1 1 ⟨#[47, 102]⟩) (rep 0 0) (rep 0 0)).drew (by omega) (by omega) (by rw [← hrow]; exact A.out.win))
  have HX := Lib.hid (And.intro hrow (And.intro hcl (And.intro hsz (And.intro h0 (And.intro h1 (And.intro h2 (And.intro hf h3)))))))
  have HOC := Lib.hid (show (rep 0 2).all (·.oneCell') = true from by simp [rep, Value.oneCell'])
  clear h hrow hcl hsz h0 h1 h2 hf h3
  have hn := nilf_no
  unfold asking req rep at *
  go_enter Tryz.func15, Tryz.ntmps15
  go_wp2_with fail
  with_reducible refine HM.out.mono ?_
  rintro e w' ⟨rfl, rfl⟩
  go_wp2_with fail
  refine (deed_make _).mono ?_
  rintro e w' ⟨rfl, rfl⟩
  go_wp2_with fail
  generalize (((w.alloc (.cells #[.int .i64 0, .int .i64 0, .int .i64 1, .int .i64 1, .string ⟨#[47, 102]⟩, .string ⟨#[]⟩, .bool false, .bool false, .bool false, .int .i64 0, .int .i64 0, .int .i64 0, .slice none 0 0, .slice none 0 0] 36)).alloc (.cells #[.int .i64 0, .int .i64 0, .int .i64 0, .int .i64 0, .int .i64 0, .bool false, .slice none 0 0, .slice none 0 0] 29)).alloc (.cells #[.int .i64 0, .int .i64 0, .int .i64 0, .int .i64 0, .int .i64 0, .bool false, .slice none 0 0, .slice none 0 0] 29)) = w0 at *
  generalize hb0 : w.heap.size = b0 at *
  have q0 : w0.cell? ⟨b0, 0, none⟩ = some (.int .i64 0) := by rw [cell_at Q.out]; rfl
  have q1 : w0.cell? ⟨b0, 1, none⟩ = some (.int .i64 0) := by rw [cell_at Q.out]; rfl
  have q2 : w0.cell? ⟨b0, 2, none⟩ = some (.int .i64 1) := by rw [cell_at Q.out]; rfl
  go_region_held3 (fun w' => w'.cell? ⟨L.s, 8, none⟩ = some (.pointer (some ⟨L.win, 0, none⟩)) ∧ w'.cell? ⟨b0, 0, none⟩ = some (.int .i64 0) ∧ w'.cell? ⟨b0, 1, none⟩ = some (.int .i64 0) ∧ w'.cell? ⟨b0, 2, none⟩ = some (.int .i64 1)) (first | go_keep | (go_split_ands; refine ⟨?_, ?_, ?_, ?_⟩ <;> exact f1.cell_of (by assumption) id))
    ((go_at_call 53; refine HK.out.mono ?_; rintro e w1 ⟨rfl, f1⟩))
  all_goals
    have F1 : Fr No w0 w1 := (Fr.refl w0).drew.trans f1 (fun _ _ e => e)
    have Q1 := Lib.hid (F1.block_of Q.out id)
    have HS := Lib.hid (asked_new w1 L C (A.out.no F1) HX.out.1 HX.out.2.1 HX.out.2.2.1 HX.out.2.2.2.1 HX.out.2.2.2.2.1 HX.out.2.2.2.2.2.1 HX.out.2.2.2.2.2.2.1 HX.out.2.2.2.2.2.2.2)
    unfold req rep at HS
    clear q0 q1 q2 c8
    go_wp2_with (refine wpList_load_row rfl 36 (.tmp 3) rfl b0 rfl 36 _ (0, 0) _ Q1.out Tryz.underlying36 rfl Tryz.size36 ?_)
    with_reducible refine HS.out.mono ?_
    rintro e w2 ⟨x, m, r, v, b, c, rfl, a2, r2, s2, f2⟩
    subst hb0
    have F2 : Fr (Turn L) w w2 := (F.out.of_no.trans F1 (fun _ _ e => e.elim)).trans f2 (fun _ _ e => e)
    have nt : ∀ k, w.heap.size ≤ k → ¬ Turn L k := fun k hk e => by have := T.out k e; omega
    have K2 := Lib.hid (f2.block_of (F1.block_of O.out id) (nt _ (by omega)))
    have K1 := Lib.hid (f2.block_of (F1.block_of R.out id) (nt _ (by omega)))
    have A2 := Lib.hid a2
    have R2 := Lib.hid r2
    have S2 := Lib.hid s2
    have HF2 := Lib.hid F2
    clear a2 r2 s2 f2 F2 nt HS HK HM
    obtain ⟨c1, c4, z4, KO, KR, FX⟩ := told2 A2.out HF2.out K2.out K1.out (.int .i64 0) (.int .i64 2)
    go_wp2_with (first | (refine wpList_store_row rfl 29 (.tmp 5) _ rfl (w.heap.size + 1 + 1) #[.int .i64 0, .int .i64 2, .int .i64 0, .int .i64 0, .int .i64 0, .bool false, .slice none 0 0, .slice none 0 0] rfl rfl 29 _ K2.out Tryz.size29 rfl HOC.out ?_) | (refine wpList_load_row rfl 29 (.tmp 5) rfl (w.heap.size + 1 + 1) rfl 29 _ (0, 0) _ KO.out Tryz.underlying29 rfl Tryz.size29 ?_) | (refine wpList_store_row rfl 29 (.tmp 4) _ rfl (w.heap.size + 1) #[.int .i64 0, .int .i64 2, .int .i64 0, .int .i64 0, .int .i64 0, .bool false, .slice none 0 0, .slice none 0 0] rfl rfl 29 _ KR.out Tryz.size29 rfl HOC.out ?_))
    generalize (w2.setRow (w.heap.size + 1 + 1) #[.int .i64 0, .int .i64 2, .int .i64 0, .int .i64 0, .int .i64 0, .bool false, .slice none 0 0, .slice none 0 0]).setCell ⟨w.heap.size + 1 + 1, 4, none⟩ (.int .i64 0) = w3 at *
    have FY : Fr (fun k => k = w.heap.size + 1) w3 (w3.setRow (w.heap.size + 1) #[.int .i64 0, .int .i64 2, .int .i64 0, .int .i64 0, .int .i64 0, .bool false, .slice none 0 0, .slice none 0 0]) := Fr.setRow (S := fun k => k = w.heap.size + 1) (Fr.refl w3) (.inl rfl) _
    have KF := setRow_at (cs' := #[.int .i64 0, .int .i64 2, .int .i64 0, .int .i64 0, .int .i64 0, .bool false, .slice none 0 0, .slice none 0 0]) KR.out
    generalize w3.setRow (w.heap.size + 1) #[.int .i64 0, .int .i64 2, .int .i64 0, .int .i64 0, .int .i64 0, .bool false, .slice none 0 0, .slice none 0 0] = w4 at *
    exact bodyPost_ret (v := .agg #[.int .i64 0, .int .i64 2, .int .i64 0, .int .i64 0, .int .i64 0, .bool false, .slice none 0 0, .slice none 0 0]) (results_cell_row rfl _ _ (w.heap.size + 1) 29 _ (0, 0) _ rfl KF Tryz.underlying29 rfl Tryz.size29) rfl
      ⟨x, m, r, v, b, c, rfl, (A2.out.far K2.out FX.out).far KR.out FY, kept_row KR.out FY (kept_row K2.out FX.out R2.out), kept_sl (x := 0) KR.out rfl rfl FY (kept_sl (x := 0) K2.out rfl rfl FX.out S2.out), (HF2.out.trans FX.out (fun j hj e => by omega)).trans FY (fun j hj e => by omega)⟩
end Go.Proofs.YtlcojhddnpmgmaaGreat
