/- A request done by a state: what is none, what is stale, a boot. Walked. -/
import Derived.Test.YtlcojhddnpmgmaaGreatZm
import Derived.Outline
namespace Go.Proofs.YtlcojhddnpmgmaaGreat
open Go.RowKit

/-- the world in which a request is looked at: it, what is said, and what is to be said lie in new blocks. -/
def asking (w : World) (q r o : Array Value) : World := ((w.alloc (.cells q 36)).alloc (.cells r 29)).alloc (.cells o 29)
theorem asking_fr (w : World) (q r o : Array Value) : Fr No w (asking w q r o) := (((Fr.refl w).alloc _).alloc _).alloc _
theorem asking_size (w : World) (q r o : Array Value) : (asking w q r o).heap.size = w.heap.size + 1 + 1 + 1 := by simp [asking]
theorem asking_q (w : World) (q r o : Array Value) : (asking w q r o).heap[w.heap.size]? = some (.cells q 36 (0, 0)) := (((Fr.refl (S := No) _).alloc _).alloc _).block_of (new_at w _) id
theorem asking_r (w : World) (q r o : Array Value) : (asking w q r o).heap[w.heap.size + 1]? = some (.cells r 29 (0, 0)) := by
  have h : ((w.alloc (.cells q 36)).alloc (.cells r 29)).heap[w.heap.size + 1]? = some (.cells r 29 (0, 0)) := by simpa using new_at (w.alloc (.cells q 36)) (.cells r 29)
  exact ((Fr.refl (S := No) _).alloc _).block_of h id
theorem asking_o (w : World) (q r o : Array Value) : (asking w q r o).heap[w.heap.size + 1 + 1]? = some (.cells o 29 (0, 0)) := by
  simpa [asking] using new_at ((w.alloc (.cells q 36)).alloc (.cells r 29)) (.cells o 29)
/-- what was done is told: the world behind the reply's row and the swaps in it. -/
theorem told {w w1 w0 : World} {L : Loc} {C : Con} {ro rr : Array Value} (f1 : Fr No w0 w1) (a : At w0 L C) (f0 : Fr No w w0) (ko : w0.heap[w.heap.size + 1 + 1]? = some (.cells ro 29 (0, 0))) (kr : w0.heap[w.heap.size + 1]? = some (.cells rr 29 (0, 0))) (x n : Value) :
    (w1.setRow (w.heap.size + 1 + 1) #[x, n, .int .i64 0, .int .i64 0, .int .i64 0, .bool false, .slice none 0 0, .slice none 0 0]).cell? ⟨L.s, 1, none⟩ = some (.int .i64 0) ∧
    (w1.setRow (w.heap.size + 1 + 1) #[x, n, .int .i64 0, .int .i64 0, .int .i64 0, .bool false, .slice none 0 0, .slice none 0 0]).cell? ⟨w.heap.size + 1 + 1, 4, none⟩ = some (.int .i64 0) ∧
    (w1.setRow (w.heap.size + 1 + 1) #[x, n, .int .i64 0, .int .i64 0, .int .i64 0, .bool false, .slice none 0 0, .slice none 0 0]).frozen? ⟨w.heap.size + 1 + 1, 4, none⟩ = false ∧
    Hid (((w1.setRow (w.heap.size + 1 + 1) #[x, n, .int .i64 0, .int .i64 0, .int .i64 0, .bool false, .slice none 0 0, .slice none 0 0]).setCell ⟨w.heap.size + 1 + 1, 4, none⟩ (.int .i64 0)).heap[w.heap.size + 1 + 1]? = some (.cells #[x, n, .int .i64 0, .int .i64 0, .int .i64 0, .bool false, .slice none 0 0, .slice none 0 0] 29 (0, 0))) ∧
    Hid (((w1.setRow (w.heap.size + 1 + 1) #[x, n, .int .i64 0, .int .i64 0, .int .i64 0, .bool false, .slice none 0 0, .slice none 0 0]).setCell ⟨w.heap.size + 1 + 1, 4, none⟩ (.int .i64 0)).heap[w.heap.size + 1]? = some (.cells rr 29 (0, 0))) ∧
    Hid (Fr No w ((w1.setRow (w.heap.size + 1 + 1) #[x, n, .int .i64 0, .int .i64 0, .int .i64 0, .bool false, .slice none 0 0, .slice none 0 0]).setCell ⟨w.heap.size + 1 + 1, 4, none⟩ (.int .i64 0))) := by
  have k1 := setRow_at (cs' := #[x, n, .int .i64 0, .int .i64 0, .int .i64 0, .bool false, .slice none 0 0, .slice none 0 0]) (f1.block_of ko id)
  have fs : Fr (fun k => k = w.heap.size + 1 + 1) w1 (w1.setRow (w.heap.size + 1 + 1) #[x, n, .int .i64 0, .int .i64 0, .int .i64 0, .bool false, .slice none 0 0, .slice none 0 0]) := Fr.setRow (S := fun k => k = w.heap.size + 1 + 1) (Fr.refl w1) (.inl rfl) _
  have ft : Fr (fun k => k = w.heap.size + 1 + 1) w1 ((w1.setRow (w.heap.size + 1 + 1) #[x, n, .int .i64 0, .int .i64 0, .int .i64 0, .bool false, .slice none 0 0, .slice none 0 0]).setCell ⟨w.heap.size + 1 + 1, 4, none⟩ (.int .i64 0)) := fs.setCell (.inl rfl) _
  have hne : L.s ≠ w.heap.size + 1 + 1 := by intro e; have := a.s; rw [e, ko] at this; simp at this
  refine ⟨?_, ?_, frozen_at k1 4, Lib.hid ?_, Lib.hid (ft.block_of (f1.block_of kr id) (by omega)), Lib.hid ?_⟩
  · rw [cell_at (fs.block_of (f1.block_of a.s id) hne)]; rfl
  · rw [cell_at k1]; rfl
  · simpa using setCell_at k1 4 (.int .i64 0)
  · exact ((f0.trans f1 (fun _ _ e => e)).of_no.trans ft (fun j hj e => by omega)).no (S := No) (fun _ _ e => e)
theorem nilf_yes (w : World) : (Go.binOp .eql 106 .nilFunc .nilFunc).run Tryz.prog w = .ok (.bool true) w := by kernel_rfl
theorem nilf_no (w : World) : (Go.binOp .eql 106 (.func (Fn.func 82) #[] #[]) .nilFunc).run Tryz.prog w = .ok (.bool false) w := by kernel_rfl

set_option maxRecDepth 100000 in
set_option maxHeartbeats 1600000 in
theorem apply_99 (w : World) (L : Loc) (C : Con) (h : At w L C) :
    Calls Tryz.prog 15 #[.pointer (some ⟨L.s, 0, none⟩), .agg (req 0 99 ⟨#[]⟩)] w fun e w' => e = .returned (.agg (rep 1 0)) ∧ Fr No w w' := by
  have HM := Lib.hid (made_ _ L C (h.no (((Fr.refl w).alloc (.cells (req 0 99 ⟨#[]⟩) 36)).alloc (.cells (rep 0 0) 29))))
  have F := Lib.hid (asking_fr w (req 0 99 ⟨#[]⟩) (rep 1 0) (rep 1 0))
  have R := Lib.hid (asking_r w (req 0 99 ⟨#[]⟩) (rep 1 0) (rep 1 0))
  have c1 : (asking w (req 0 99 ⟨#[]⟩) (rep 0 0) (rep 1 0)).cell? ⟨L.s, 1, none⟩ = some (.int .i64 0) := by rw [cell_at (h.no (asking_fr _ _ _ _)).s]; rfl
  clear h
  have hy := nilf_yes
  unfold asking req rep at *
  go_enter Tryz.func15, Tryz.ntmps15
  go_wp2_with fail
  with_reducible refine HM.out.mono ?_
  rintro e w' ⟨rfl, rfl⟩
  go_wp2_with fail
  refine (deed_99 _).mono ?_
  rintro e w' ⟨rfl, rfl⟩
  go_wp2_with fail
  exact bodyPost_ret (v := .agg #[.int .i64 1, .int .i64 0, .int .i64 0, .int .i64 0, .int .i64 0, .bool false, .slice none 0 0, .slice none 0 0]) (results_cell_row rfl _ _ (w.heap.size + 1) 29 _ (0, 0) _ rfl R.out Tryz.underlying29 rfl Tryz.size29) rfl ⟨rfl, F.out⟩

set_option maxRecDepth 100000 in
set_option maxHeartbeats 1600000 in
theorem apply_boot (w : World) (L : Loc) (C : Con) (h : At w L C) :
    Calls Tryz.prog 15 #[.pointer (some ⟨L.s, 0, none⟩), .agg (req 0 10 ⟨#[]⟩)] w fun e w' => e = .returned (.agg (rep 17 0)) ∧ Fr No w w' := by
  have HM := Lib.hid (made_ _ L C (h.no (((Fr.refl w).alloc (.cells (req 0 10 ⟨#[]⟩) 36)).alloc (.cells (rep 0 0) 29))))
  have F := Lib.hid (asking_fr w (req 0 10 ⟨#[]⟩) (rep 0 0) (rep 0 0))
  have Q := Lib.hid (asking_q w (req 0 10 ⟨#[]⟩) (rep 0 0) (rep 0 0))
  have R := Lib.hid (asking_r w (req 0 10 ⟨#[]⟩) (rep 0 0) (rep 0 0))
  have O := Lib.hid (asking_o w (req 0 10 ⟨#[]⟩) (rep 0 0) (rep 0 0))
  have HT := Lib.hid (tried_boot (asking w (req 0 10 ⟨#[]⟩) (rep 0 0) (rep 0 0)) (.pointer (some ⟨L.s, 0, none⟩)))
  have A := Lib.hid (h.no F.out)
  have HOC := Lib.hid (show (rep 17 0).all (·.oneCell') = true from by simp [rep, Value.oneCell'])
  clear h
  have hy := nilf_yes
  unfold asking req rep at *
  go_enter Tryz.func15, Tryz.ntmps15
  go_wp2_with fail
  with_reducible refine HM.out.mono ?_
  rintro e w' ⟨rfl, rfl⟩
  go_wp2_with fail
  refine (deed_10 _).mono ?_
  rintro e w' ⟨rfl, rfl⟩
  go_wp2_with (refine wpList_load_row rfl 36 (.tmp 3) rfl w.heap.size rfl 36 _ (0, 0) _ Q.out Tryz.underlying36 rfl Tryz.size36 ?_)
  with_reducible refine HT.out.mono ?_
  rintro e w1 ⟨rfl, f1⟩
  have K1 := Lib.hid (f1.block_of R.out id)
  have K2 := Lib.hid (f1.block_of O.out id)
  obtain ⟨c1, c4, z4, KO, KR, FX⟩ := told f1 A.out F.out O.out R.out (.int .i64 17) (.int .i64 0)
  clear f1 HT
  go_wp2_with (first | (refine wpList_store_row rfl 29 (.tmp 5) (.tmp 47) rfl (w.heap.size + 1 + 1) #[.int .i64 17, .int .i64 0, .int .i64 0, .int .i64 0, .int .i64 0, .bool false, .slice none 0 0, .slice none 0 0] rfl rfl 29 _ K2.out Tryz.size29 rfl HOC.out ?_) | (refine wpList_load_row rfl 29 (.tmp 5) rfl (w.heap.size + 1 + 1) rfl 29 _ (0, 0) _ KO.out Tryz.underlying29 rfl Tryz.size29 ?_) | (refine wpList_store_row rfl 29 (.tmp 4) _ rfl (w.heap.size + 1) #[.int .i64 17, .int .i64 0, .int .i64 0, .int .i64 0, .int .i64 0, .bool false, .slice none 0 0, .slice none 0 0] rfl rfl 29 _ KR.out Tryz.size29 rfl HOC.out ?_))
  exact bodyPost_ret (v := .agg #[.int .i64 17, .int .i64 0, .int .i64 0, .int .i64 0, .int .i64 0, .bool false, .slice none 0 0, .slice none 0 0]) (results_cell_row rfl _ _ (w.heap.size + 1) 29 _ (0, 0) _ rfl (setRow_at KR.out) Tryz.underlying29 rfl Tryz.size29) rfl ⟨rfl, FX.out.setRow (.inr (by omega)) _⟩
end Go.Proofs.YtlcojhddnpmgmaaGreat
