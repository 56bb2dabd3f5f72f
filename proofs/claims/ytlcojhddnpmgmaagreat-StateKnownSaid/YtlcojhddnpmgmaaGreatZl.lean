/- Reading a reply of bytes. Walked. -/
import Derived.Test.YtlcojhddnpmgmaaGreatZk
import Derived.Outline
namespace Go.Proofs.YtlcojhddnpmgmaaGreat
open Go.RowKit

set_option maxRecDepth 100000 in
set_option maxHeartbeats 1600000 in
theorem read_ (rb : Nat) (v : Value) (b off c : Nat) (w : World) (h : SlIs w v (repB 0 2) b off c)
    (hr : w.heap[rb]? = some (.cells #[.int .i64 0, .int .i64 0, .int .i64 0, .int .i64 0, .int .i64 0, .bool false, .slice none 0 0, .slice none 0 0] 29 (0, 0))) :
    Calls Tryz.prog 102 #[v, .func (Fn.func 103) #[] #[.pointer (some ⟨rb, 0, none⟩)]] w fun x w' => x = .returned (.int .i64 0) ∧ Was rb w w' := by
  have hmf : ∀ (fn : Fn) (first cap : Array Value) (w : World), (Instr.makeFunc fn first cap).run Tryz.prog w = .ok (.func fn first cap) w := fun _ _ _ _ => rfl
  obtain ⟨rfl, sl⟩ := h
  have F0 : Fr No w ((w.alloc (.cells #[.slice (some ⟨b, off, none⟩) (repB 0 2).length c] 27)).alloc (.cells #[.func (Fn.func 103) #[] #[.pointer (some ⟨rb, 0, none⟩)]] 172)) := ((Fr.refl w).alloc _).alloc _
  have kp : ((w.alloc (.cells #[.slice (some ⟨b, off, none⟩) (repB 0 2).length c] 27)).alloc (.cells #[.func (Fn.func 103) #[] #[.pointer (some ⟨rb, 0, none⟩)]] 172)).heap[w.heap.size]? = some (.cells #[.slice (some ⟨b, off, none⟩) (repB 0 2).length c] 27 (0, 0)) := ((Fr.refl (S := No) _).alloc _).block_of (new_at w _) id
  have kq : ((w.alloc (.cells #[.slice (some ⟨b, off, none⟩) (repB 0 2).length c] 27)).alloc (.cells #[.func (Fn.func 103) #[] #[.pointer (some ⟨rb, 0, none⟩)]] 172)).heap[w.heap.size + 1]? = some (.cells #[.func (Fn.func 103) #[] #[.pointer (some ⟨rb, 0, none⟩)]] 172 (0, 0)) := by simpa using new_at (w.alloc (.cells #[.slice (some ⟨b, off, none⟩) (repB 0 2).length c] 27)) (.cells #[.func (Fn.func 103) #[] #[.pointer (some ⟨rb, 0, none⟩)]] 172)
  have hrb := lt_of_block hr
  have HR := Lib.hid hr
  have SL := Lib.hid sl
  have KP := Lib.hid kp
  have KQ := Lib.hid kq
  clear hr sl kp kq
  have hsz : ((w.alloc (.cells #[.slice (some ⟨b, off, none⟩) (repB 0 2).length c] 27)).alloc (.cells #[.func (Fn.func 103) #[] #[.pointer (some ⟨rb, 0, none⟩)]] 172)).heap.size = w.heap.size + 1 + 1 := by simp
  have HSZ := Lib.hid hsz
  clear hsz
  go_enter Tryz.func102, Tryz.ntmps102
  go_wp2_with fail
  generalize ((w.alloc (.cells #[.slice (some ⟨b, off, none⟩) (repB 0 2).length c] 27)).alloc (.cells #[.func (Fn.func 103) #[] #[.pointer (some ⟨rb, 0, none⟩)]] 172)) = w0 at *
  have fg : Fr No w0 (w0.alloc (.cells #[.int .i64 0] 25)) := (Fr.refl w0).alloc _
  have FG : Fr No w (w0.alloc (.cells #[.int .i64 0] 25)) := F0.trans fg (fun _ _ e => e)
  refine (guard150 w.heap.size (w.heap.size + 1) (fun w1 => Was rb (w0.alloc (.cells #[.int .i64 0] 25)) w1) w0 ?_).mono ?_
  · refine (read1_ w.heap.size (w.heap.size + 1) rb _ b off c _ (fg.block_of KP.out id) (fg.block_of KQ.out id) (FG.block_of HR.out id) ⟨rfl, SL.out.1, Nat.lt_of_lt_of_le SL.out.2.1 FG.size, fun j y hj => FG.cell_of (SL.out.2.2 j y hj) id⟩).mono ?_
    rintro x w1 ⟨rfl, hw⟩
    have e0 := HSZ.out
    have hw2 := hw
    obtain ⟨v', b', c', s1, k1, f1⟩ := hw2
    exact ⟨rfl, hw, f1.block_of (new_at w0 _) (by omega)⟩
  · rintro x w2 ⟨rfl, w1, ⟨v', b', c', s1, k1, f1⟩, f2⟩
    have e0 := HSZ.out
    have k2 := f2.block_of k1 (by omega)
    have FX : Fr (fun k => k = rb) w w2 := ((FG.of_no (S := fun k => k = rb)).trans f1 (fun j hj e => e)).trans f2 (fun j hj e => by omega)
    have WX : Hid (Was rb w w2) := Lib.hid ⟨v', b', c', ⟨s1.1, s1.2.1, Nat.lt_of_lt_of_le s1.2.2.1 f2.size, fun j y hj => by simp at hj⟩, k2, FX⟩
    clear s1 k1 f1 f2 k2
    go_wp2_with fail
    go_ret
    exact ⟨rfl, WX.out⟩

theorem results54_ (tmps : Array Value) (w : World) (g : Nat) (cs : Array Value) (fr : Nat × Nat) (v3 : Value) (hp : tmps.getD 2 undef = .pointer (some ⟨g, 0, none⟩)) (h3 : tmps.getD 3 undef = v3)
    (hg : w.heap[g]? = some (.cells cs 29 fr)) (hc : cs.size = 8) : (results Tryz.f54 tmps).run Tryz.prog w = .ok (.tuple #[.agg cs, v3]) w := by
  have hl := run_loadVar_row (P := Tryz.prog) w g 29 29 cs fr _ hg Tryz.underlying29 rfl (by rw [Tryz.size29, hc])
  have h2' : tmps[2]?.getD undef = .pointer (some ⟨g, 0, none⟩) := by simpa using hp
  have h3' : tmps[3]?.getD undef = v3 := by simpa using h3
  simp [results, Tryz.results54, asAddr, h2', h3', hl]

set_option maxRecDepth 100000 in
set_option maxHeartbeats 1600000 in
theorem decode_ (v : Value) (b off c : Nat) (w : World) (h : SlIs w v (repB 0 2) b off c) :
    Calls Tryz.prog 54 #[v] w fun x w' => ∃ b' c', x = .returned (.tuple #[.agg #[.int .i64 0, .int .i64 2, .int .i64 0, .int .i64 0, .int .i64 0, .bool false, .slice none 0 0, .slice (some ⟨b', 0, none⟩) 0 c'], .int .i64 0]) ∧ Fr No w w' := by
  have hmf : ∀ (fn : Fn) (first cap : Array Value) (w : World), (Instr.makeFunc fn first cap).run Tryz.prog w = .ok (.func fn first cap) w := fun _ _ _ _ => rfl
  obtain ⟨rfl, sl⟩ := h
  have F0 : Fr No w ((w.alloc (.cells (rep 0 0) 29)).alloc (.cells (rep 0 0) 29)) := ((Fr.refl w).alloc _).alloc _
  have k0 : ((w.alloc (.cells (rep 0 0) 29)).alloc (.cells (rep 0 0) 29)).heap[w.heap.size]? = some (.cells (rep 0 0) 29 (0, 0)) := ((Fr.refl (S := No) _).alloc _).block_of (new_at w _) id
  have k1 : ((w.alloc (.cells (rep 0 0) 29)).alloc (.cells (rep 0 0) 29)).heap[w.heap.size + 1]? = some (.cells (rep 0 0) 29 (0, 0)) := by simpa using new_at (w.alloc (.cells (rep 0 0) 29)) (.cells (rep 0 0) 29)
  have HR := Lib.hid (read_ (w.heap.size + 1) _ b off c _ ⟨rfl, sl.1, Nat.lt_of_lt_of_le sl.2.1 F0.size, fun j y hj => F0.cell_of (sl.2.2 j y hj) id⟩ k1)
  have K0 := Lib.hid k0
  clear k0 k1 sl
  unfold rep at *
  go_enter Tryz.func54, Tryz.ntmps54
  go_wp2_with fail
  with_reducible refine HR.out.mono ?_
  rintro x w2 ⟨rfl, v', b', c', ⟨rfl, s1⟩, k1, f1⟩
  have K1 := Lib.hid k1
  have K2 := Lib.hid (f1.block_of K0.out (by omega))
  have FX : Hid (Fr No w w2) := Lib.hid ((F0.of_no.trans f1 (fun _ _ e => e)).no (fun k hk => by omega))
  have HOC := Lib.hid (show (#[.int .i64 0, .int .i64 2, .int .i64 0, .int .i64 0, .int .i64 0, .bool false, .slice none 0 0, .slice (some ⟨b', 0, none⟩) 0 c'] : Array Value).all (·.oneCell') = true from by simp [Value.oneCell'])
  clear s1 k1 f1 HR F0 K0
  go_wp2_with (first | (refine wpList_load_row rfl 29 (.tmp 4) rfl (w.heap.size + 1) rfl 29 #[.int .i64 0, .int .i64 2, .int .i64 0, .int .i64 0, .int .i64 0, .bool false, .slice none 0 0, .slice (some ⟨b', 0, none⟩) 0 c'] (0, 0) _ K1.out Tryz.underlying29 rfl Tryz.size29 ?_) | (refine wpList_store_row rfl 29 (.tmp 2) (.tmp 13) rfl w.heap.size #[.int .i64 0, .int .i64 2, .int .i64 0, .int .i64 0, .int .i64 0, .bool false, .slice none 0 0, .slice (some ⟨b', 0, none⟩) 0 c'] rfl rfl 29 _ K2.out Tryz.size29 rfl HOC.out ?_))
  all_goals
    have KF := setRow_at (cs' := #[.int .i64 0, .int .i64 2, .int .i64 0, .int .i64 0, .int .i64 0, .bool false, .slice none 0 0, .slice (some ⟨b', 0, none⟩) 0 c']) K2.out
    have FF := FX.out.setRow (g := w.heap.size) (.inr (Nat.le_refl _)) #[.int .i64 0, .int .i64 2, .int .i64 0, .int .i64 0, .int .i64 0, .bool false, .slice none 0 0, .slice (some ⟨b', 0, none⟩) 0 c']
    generalize w2.setRow w.heap.size #[.int .i64 0, .int .i64 2, .int .i64 0, .int .i64 0, .int .i64 0, .bool false, .slice none 0 0, .slice (some ⟨b', 0, none⟩) 0 c'] = w3 at *
    exact bodyPost_ret (results54_ _ _ w.heap.size _ (0, 0) (.int .i64 0) rfl rfl KF rfl) rfl ⟨b', c', rfl, FF⟩
end Go.Proofs.YtlcojhddnpmgmaaGreat
