/- Parts: Apply: a request done. Walked. (Printed by wip/tools/jhgen.py.) -/
import Derived.Test.YtlcojhddnpmgmaaGreatM28
set_option linter.unusedSimpArgs false
set_option linter.unusedVariables false
set_option maxRecDepth 100000
namespace Go.Proofs.YtlcojhddnpmgmaaGreat
open Go.RowKit
def deedV (k : Int) : Value := if 1 ≤ k ∧ k ≤ 8 then .func (Fn.func (81 + k.toNat)) #[] #[] else .nilFunc
theorem gdeed_ (k : Int) (w : World) : Calls Tryz.prog 48 #[.int .i64 k] w fun e w' => e = .returned (deedV k) ∧ w' = w := by
 by_cases h : 1 ≤ k ∧ k ≤ 8
 ·have hk : k = 1 ∨ k = 2 ∨ k = 3 ∨ k = 4 ∨ k = 5 ∨ k = 6 ∨ k = 7 ∨ k = 8 := by omega
  have hv : deedV k = .func (Fn.func (81 + k.toNat)) #[] #[] := if_pos h
  rw [hv]
  clear hv h
  rcases hk with rfl | rfl | rfl | rfl | rfl | rfl | rfl | rfl
  all_goals
   go_enter Tryz.func48, Tryz.ntmps48
   go_wp2
   go_ret
   exact ⟨rfl, rfl⟩
 ·have hv : deedV k = .nilFunc := if_neg h
  rw [hv]
  have h1 : (k == 1) = false := by simp; omega
  have h2 : (k == 2) = false := by simp; omega
  have h3 : (k == 3) = false := by simp; omega
  have h4 : (k == 4) = false := by simp; omega
  have h5 : (k == 5) = false := by simp; omega
  have h6 : (k == 6) = false := by simp; omega
  have h7 : (k == 7) = false := by simp; omega
  have h8 : (k == 8) = false := by simp; omega
  clear hv h
  go_enter Tryz.func48, Tryz.ntmps48
  go_wp2
  go_ret
  exact ⟨rfl, rfl⟩
theorem fnnil_yes (w : World) : (Go.binOp .eql 106 .nilFunc .nilFunc).run Tryz.prog w = .ok (.bool true) w := by kernel_rfl
theorem fnnil_f (f : Nat) (w : World) : (Go.binOp .eql 106 (.func (Fn.func f) #[] #[]) .nilFunc).run Tryz.prog w = .ok (.bool false) w := by kernel_rfl
theorem lasts_ {C B : Nat → Prop} {w w' w'' w3 : World} {o o' : Nat → Nat} (hf : Fresh w o) (f : Fr No w w') (s : Step C w' o w'' o') (hB : ∀ g, B g → w.heap.size ≤ g ∧ g < w'.heap.size) (q : Fr B w'' w3) :
  Step C w o w3 o' ∧ Step (fun c => c = 0) w'' o' w3 o' := by
 have e : ∀ g, B g → o' g = 0 := fun g hg => (s.old g (hB g hg).2).trans (hf g (hB g hg).1)
 have f0 : Fr (fun k => C (o k)) w w'' := (f.of_no).trans s.fr (fun _ _ h => h)
 refine ⟨⟨f0.trans q (fun j hj e => by have := (hB j e).1; omega), fun k hk => s.old k (Nat.lt_of_lt_of_le hk f.size), fun k hk => s.fresh k (Nat.le_trans q.size hk)⟩, ⟨q.mono (fun j _ h => e j h), fun _ _ => rfl, fun k hk => s.fresh k (Nat.le_trans q.size hk)⟩⟩
def applyW (w : World) (q : Array Value) : World := ((w.alloc (.cells q 36)).alloc (.cells #[.int .i64 0, .int .i64 0, .int .i64 0, .int .i64 0, .int .i64 0, .bool false, .slice none 0 0, .slice none 0 0] 29)).alloc (.cells #[.int .i64 0, .int .i64 0, .int .i64 0, .int .i64 0, .int .i64 0, .bool false, .slice none 0 0, .slice none 0 0] 29)
theorem applyW_fr (w : World) (q : Array Value) : Fr No w (applyW w q) := (((Fr.refl w).alloc _).alloc _).alloc _
theorem applyW_q (w : World) (q : Array Value) : (applyW w q).heap[w.heap.size]? = some (.cells q 36 (0, 0)) := (((Fr.refl (S := No) _).alloc _).alloc _).block_of (new_at w _) id
theorem applyW_r (w : World) (q : Array Value) : (applyW w q).heap[w.heap.size + 1]? = some (.cells #[.int .i64 0, .int .i64 0, .int .i64 0, .int .i64 0, .int .i64 0, .bool false, .slice none 0 0, .slice none 0 0] 29 (0, 0)) := by
 have h : ((w.alloc (.cells q 36)).alloc (.cells #[.int .i64 0, .int .i64 0, .int .i64 0, .int .i64 0, .int .i64 0, .bool false, .slice none 0 0, .slice none 0 0] 29)).heap[w.heap.size + 1]? = some (.cells #[.int .i64 0, .int .i64 0, .int .i64 0, .int .i64 0, .int .i64 0, .bool false, .slice none 0 0, .slice none 0 0] 29 (0, 0)) := by simpa using new_at (w.alloc (.cells q 36)) (.cells #[.int .i64 0, .int .i64 0, .int .i64 0, .int .i64 0, .int .i64 0, .bool false, .slice none 0 0, .slice none 0 0] 29)
 exact ((Fr.refl (S := No) _).alloc _).block_of h id
theorem applyW_o (w : World) (q : Array Value) : (applyW w q).heap[w.heap.size + 1 + 1]? = some (.cells #[.int .i64 0, .int .i64 0, .int .i64 0, .int .i64 0, .int .i64 0, .bool false, .slice none 0 0, .slice none 0 0] 29 (0, 0)) := by
 simpa [applyW] using new_at ((w.alloc (.cells q 36)).alloc (.cells #[.int .i64 0, .int .i64 0, .int .i64 0, .int .i64 0, .int .i64 0, .bool false, .slice none 0 0, .slice none 0 0] 29)) (.cells #[.int .i64 0, .int .i64 0, .int .i64 0, .int .i64 0, .int .i64 0, .bool false, .slice none 0 0, .slice none 0 0] 29)
set_option maxHeartbeats 6400000 in
theorem gap50_ (o : Nat → Nat) (K n n' : Nat) (L : Plc) (S : St) (r : Req) (rv dv : Value) (w : World) (x : RepS × St) (h : StateAt w o K L S n) (ok : StOk S) (hf : Fresh w o) (hk : r.kind = 10) (ok' : StOk x.2) (HT : ∀ w1, Fr No w w1 → Calls Tryz.prog 49 #[.pointer (some ⟨L.s, 0, none⟩), .func (Fn.func 50) #[] #[], .agg (r.cells rv dv)] w1 (Tried w1 o K L n' x)) :
  Calls Tryz.prog 15 #[.pointer (some ⟨L.s, 0, none⟩), .agg (r.cells rv dv)] w (Told w o K L n' (withSw x.1 x.2.swaps, x.2)) := by
 have f0 : Fr No w (applyW w (r.cells rv dv)) := applyW_fr _ _
 have F0 := Lib.hid f0
 have H0 := h.no ok hf f0
 have G0 := (Step.no (C := fun _ => False) hf f0).fresh
 have k0 := applyW_q w (r.cells rv dv)
 have k1 := applyW_r w (r.cells rv dv)
 have k2 := applyW_o w (r.cells rv dv)
 have ZQ : Hid (Zero (applyW w (r.cells rv dv)) o w.heap.size (.cells (r.cells rv dv) 36 (0, 0))) := Lib.hid ⟨k0, hf _ (Nat.le_refl _)⟩
 have ZR : Hid (Zero (applyW w (r.cells rv dv)) o (w.heap.size + 1) (.cells #[.int .i64 0, .int .i64 0, .int .i64 0, .int .i64 0, .int .i64 0, .bool false, .slice none 0 0, .slice none 0 0] 29 (0, 0))) := Lib.hid ⟨k1, hf _ (Nat.le_succ _)⟩
 have ZO : Hid (Zero (applyW w (r.cells rv dv)) o (w.heap.size + 1 + 1) (.cells #[.int .i64 0, .int .i64 0, .int .i64 0, .int .i64 0, .int .i64 0, .bool false, .slice none 0 0, .slice none 0 0] 29 (0, 0))) := Lib.hid ⟨k2, hf _ (by omega)⟩
 have B2 := Lib.hid (lt_of_block k2)
 have fm : Fr No w ((w.alloc (.cells (r.cells rv dv) 36)).alloc (.cells #[.int .i64 0, .int .i64 0, .int .i64 0, .int .i64 0, .int .i64 0, .bool false, .slice none 0 0, .slice none 0 0] 29)) := ((Fr.refl w).alloc _).alloc _
 have HMD := Lib.hid (gmade_ o K n L S _ (h.no ok hf fm))
 have HTC := Lib.hid (HT _ f0)
 unfold Tried at HTC
 obtain ⟨x1, x2⟩ := x
 dsimp only at ok' HTC ⊢
 have HQ : Hid (∀ (w5 w3 : World) (o5 : Nat → Nat) ev mv, StateAt w5 o5 K L x2 n' → Step (stateC K) (applyW w (r.cells rv dv)) o w5 o5 → ev.oneCell' = true → mv.oneCell' = true → Fr (fun j => j = w.heap.size + 1 ∨ j = w.heap.size + 1 + 1) w5 w3 → Told w o K L n' (withSw x1 x2.swaps, x2) (.returned (.agg #[.int .i64 x1.e, .int .i64 x1.ino, .int .i64 x1.size, .int .i64 x1.handle, .int .i64 x2.swaps, .bool x1.dir, ev, mv])) w3) := Lib.hid (fun w5 w3 o5 ev mv t s h1 h2 g => by
  have hb := B2.out
  obtain ⟨a, b⟩ := lasts_ hf f0 s (fun j hj => by omega) g
  exact ⟨⟨o5, a, t.step ok' b (fun c h e => by unfold stateC at h; omega)⟩, ev, mv, rfl, h1, h2⟩)
 generalize hQQ : Told w o K L n' (withSw x1 x2.swaps, x2) = Q at *
 clear hQQ
 have HH := Lib.hid H0
 clear H0 G0 k0 k1 k2 f0 fm h ok hf HT ok'
 unfold applyW Req.cells at *
 try unfold RepS.cells at *
 generalize r.kind = kk at *
 subst hk
 go_enter Tryz.func15, Tryz.ntmps15
 go_wp2_with fail
 with_reducible refine HMD.out.mono ?_
 rintro e w' ⟨rfl, rfl⟩
 go_wp2_with fail
 refine (gdeed_ _ _).mono ?_
 rintro e w' ⟨rfl, rfl⟩
 generalize ((w.alloc (.cells #[.int .i64 r.c, .int .i64 r.l, .int .i64 r.q, .int .i64 10, .string (ba r.path), .string (ba r.to), .bool r.dir, .bool r.wr, .bool r.cl, .int .i64 r.h, .int .i64 r.nx, .int .i64 r.sw, rv, dv] 36)).alloc (.cells #[.int .i64 0, .int .i64 0, .int .i64 0, .int .i64 0, .int .i64 0, .bool false, .slice none 0 0, .slice none 0 0] 29)).alloc (.cells #[.int .i64 0, .int .i64 0, .int .i64 0, .int .i64 0, .int .i64 0, .bool false, .slice none 0 0, .slice none 0 0] 29) = w0 at *
 generalize hb0 : w.heap.size = b0 at *
 have q3 : w0.cell? ⟨b0, 3, none⟩ = some (.int .i64 10) := by rw [cell_at ZQ.out.1]; rfl
 go_wp2_with (refine wpList_load_row rfl 36 (.tmp 3) rfl b0 rfl 36 _ (0, 0) _ ZQ.out.1 Tryz.underlying36 rfl Tryz.size36 ?_)
 with_reducible refine HTC.out.mono ?_
 rintro e w5 ⟨⟨o5, s5, t5⟩, v, rfl, ev, mv, rfl, hev, hmv⟩
 have HO1 := Lib.hid hev.one
 have HO2 := Lib.hid hmv.one
 have HOA := Lib.hid (show (#[.int .i64 x1.e, .int .i64 x1.ino, .int .i64 x1.size, .int .i64 x1.handle, .int .i64 x2.swaps, .bool x1.dir, ev, mv] : Array Value).all (·.oneCell') = true from by
  have a : ∀ k x, (Value.int k x).oneCell' = true := fun _ _ => rfl
  have b : ∀ x, (Value.bool x).oneCell' = true := fun _ => rfl
  simp [a, b, HO1.out, HO2.out])
 have HOB := Lib.hid (show (#[.int .i64 x1.e, .int .i64 x1.ino, .int .i64 x1.size, .int .i64 x1.handle, .int .i64 x1.swaps, .bool x1.dir, ev, mv] : Array Value).all (·.oneCell') = true from by
  have a : ∀ k x, (Value.int k x).oneCell' = true := fun _ _ => rfl
  have b : ∀ x, (Value.bool x).oneCell' = true := fun _ => rfl
  simp [a, b, HO1.out, HO2.out])
 have S5 := Lib.hid s5
 have T5 := Lib.hid t5
 have Z5 := Lib.hid (ZO.out.step s5 (by unfold stateC; omega))
 have Z4 := Lib.hid (ZR.out.step s5 (by unfold stateC; omega))
 clear s5 t5
 clear hev hmv
 obtain ⟨c1, c4, z4, KO, KR, FX⟩ := told3 (sw := .int .i64 x2.swaps) (y0 := .int .i64 x1.e) (y1 := .int .i64 x1.ino) (y2 := .int .i64 x1.size) (y3 := .int .i64 x1.handle) (y4 := .int .i64 x1.swaps) (y5 := .bool x1.dir) (y6 := ev) (y7 := mv) Z5.out.1 Z4.out.1 (by omega) (T5.out.cell 1) (fun e => by have a := T5.out.own; rw [e, Z5.out.2] at a; omega)
 go_wp2_with (first | (refine wpList_store_row rfl 29 (.tmp 5) (.tmp 47) rfl (b0 + 1 + 1) #[.int .i64 x1.e, .int .i64 x1.ino, .int .i64 x1.size, .int .i64 x1.handle, .int .i64 x1.swaps, .bool x1.dir, ev, mv] rfl rfl 29 _ Z5.out.1 Tryz.size29 rfl HOB.out ?_) | (refine wpList_load_row rfl 29 (.tmp 5) rfl (b0 + 1 + 1) rfl 29 _ (0, 0) _ KO.out Tryz.underlying29 rfl Tryz.size29 ?_) | (refine wpList_store_row rfl 29 (.tmp 4) (.tmp 71) rfl (b0 + 1) #[.int .i64 x1.e, .int .i64 x1.ino, .int .i64 x1.size, .int .i64 x1.handle, .int .i64 x2.swaps, .bool x1.dir, ev, mv] rfl rfl 29 _ KR.out Tryz.size29 rfl HOA.out ?_))
 have KF := setRow_at (cs' := #[.int .i64 x1.e, .int .i64 x1.ino, .int .i64 x1.size, .int .i64 x1.handle, .int .i64 x2.swaps, .bool x1.dir, ev, mv]) KR.out
 refine bodyPost_ret (v := .agg #[.int .i64 x1.e, .int .i64 x1.ino, .int .i64 x1.size, .int .i64 x1.handle, .int .i64 x2.swaps, .bool x1.dir, ev, mv]) (results_cell_row rfl _ _ (b0 + 1) 29 _ (0, 0) _ rfl KF Tryz.underlying29 rfl Tryz.size29) rfl ?_
 exact HQ.out _ _ _ ev mv T5.out S5.out HO1.out HO2.out ((FX.out.mono (fun _ _ e => Or.inr e)).trans (Fr.setRow (S := fun j => j = b0 + 1 ∨ j = b0 + 1 + 1) (Fr.refl _) (.inl (.inl rfl)) _) (fun _ _ e => e))
set_option maxHeartbeats 6400000 in
theorem gap51_ (o : Nat → Nat) (K n n' : Nat) (L : Plc) (S : St) (r : Req) (rv dv : Value) (w : World) (x : RepS × St) (h : StateAt w o K L S n) (ok : StOk S) (hf : Fresh w o) (hk : r.kind = 11) (ok' : StOk x.2) (HT : ∀ w1, Fr No w w1 → Calls Tryz.prog 49 #[.pointer (some ⟨L.s, 0, none⟩), .func (Fn.func 51) #[] #[], .agg (r.cells rv dv)] w1 (Tried w1 o K L n' x)) :
  Calls Tryz.prog 15 #[.pointer (some ⟨L.s, 0, none⟩), .agg (r.cells rv dv)] w (Told w o K L n' (withSw x.1 x.2.swaps, x.2)) := by
 have f0 : Fr No w (applyW w (r.cells rv dv)) := applyW_fr _ _
 have F0 := Lib.hid f0
 have H0 := h.no ok hf f0
 have G0 := (Step.no (C := fun _ => False) hf f0).fresh
 have k0 := applyW_q w (r.cells rv dv)
 have k1 := applyW_r w (r.cells rv dv)
 have k2 := applyW_o w (r.cells rv dv)
 have ZQ : Hid (Zero (applyW w (r.cells rv dv)) o w.heap.size (.cells (r.cells rv dv) 36 (0, 0))) := Lib.hid ⟨k0, hf _ (Nat.le_refl _)⟩
 have ZR : Hid (Zero (applyW w (r.cells rv dv)) o (w.heap.size + 1) (.cells #[.int .i64 0, .int .i64 0, .int .i64 0, .int .i64 0, .int .i64 0, .bool false, .slice none 0 0, .slice none 0 0] 29 (0, 0))) := Lib.hid ⟨k1, hf _ (Nat.le_succ _)⟩
 have ZO : Hid (Zero (applyW w (r.cells rv dv)) o (w.heap.size + 1 + 1) (.cells #[.int .i64 0, .int .i64 0, .int .i64 0, .int .i64 0, .int .i64 0, .bool false, .slice none 0 0, .slice none 0 0] 29 (0, 0))) := Lib.hid ⟨k2, hf _ (by omega)⟩
 have B2 := Lib.hid (lt_of_block k2)
 have fm : Fr No w ((w.alloc (.cells (r.cells rv dv) 36)).alloc (.cells #[.int .i64 0, .int .i64 0, .int .i64 0, .int .i64 0, .int .i64 0, .bool false, .slice none 0 0, .slice none 0 0] 29)) := ((Fr.refl w).alloc _).alloc _
 have HMD := Lib.hid (gmade_ o K n L S _ (h.no ok hf fm))
 have HTC := Lib.hid (HT _ f0)
 unfold Tried at HTC
 obtain ⟨x1, x2⟩ := x
 dsimp only at ok' HTC ⊢
 have HQ : Hid (∀ (w5 w3 : World) (o5 : Nat → Nat) ev mv, StateAt w5 o5 K L x2 n' → Step (stateC K) (applyW w (r.cells rv dv)) o w5 o5 → ev.oneCell' = true → mv.oneCell' = true → Fr (fun j => j = w.heap.size + 1 ∨ j = w.heap.size + 1 + 1) w5 w3 → Told w o K L n' (withSw x1 x2.swaps, x2) (.returned (.agg #[.int .i64 x1.e, .int .i64 x1.ino, .int .i64 x1.size, .int .i64 x1.handle, .int .i64 x2.swaps, .bool x1.dir, ev, mv])) w3) := Lib.hid (fun w5 w3 o5 ev mv t s h1 h2 g => by
  have hb := B2.out
  obtain ⟨a, b⟩ := lasts_ hf f0 s (fun j hj => by omega) g
  exact ⟨⟨o5, a, t.step ok' b (fun c h e => by unfold stateC at h; omega)⟩, ev, mv, rfl, h1, h2⟩)
 generalize hQQ : Told w o K L n' (withSw x1 x2.swaps, x2) = Q at *
 clear hQQ
 have HH := Lib.hid H0
 clear H0 G0 k0 k1 k2 f0 fm h ok hf HT ok'
 unfold applyW Req.cells at *
 try unfold RepS.cells at *
 generalize r.kind = kk at *
 subst hk
 go_enter Tryz.func15, Tryz.ntmps15
 go_wp2_with fail
 with_reducible refine HMD.out.mono ?_
 rintro e w' ⟨rfl, rfl⟩
 go_wp2_with fail
 refine (gdeed_ _ _).mono ?_
 rintro e w' ⟨rfl, rfl⟩
 generalize ((w.alloc (.cells #[.int .i64 r.c, .int .i64 r.l, .int .i64 r.q, .int .i64 11, .string (ba r.path), .string (ba r.to), .bool r.dir, .bool r.wr, .bool r.cl, .int .i64 r.h, .int .i64 r.nx, .int .i64 r.sw, rv, dv] 36)).alloc (.cells #[.int .i64 0, .int .i64 0, .int .i64 0, .int .i64 0, .int .i64 0, .bool false, .slice none 0 0, .slice none 0 0] 29)).alloc (.cells #[.int .i64 0, .int .i64 0, .int .i64 0, .int .i64 0, .int .i64 0, .bool false, .slice none 0 0, .slice none 0 0] 29) = w0 at *
 generalize hb0 : w.heap.size = b0 at *
 have q3 : w0.cell? ⟨b0, 3, none⟩ = some (.int .i64 11) := by rw [cell_at ZQ.out.1]; rfl
 go_wp2_with (refine wpList_load_row rfl 36 (.tmp 3) rfl b0 rfl 36 _ (0, 0) _ ZQ.out.1 Tryz.underlying36 rfl Tryz.size36 ?_)
 with_reducible refine HTC.out.mono ?_
 rintro e w5 ⟨⟨o5, s5, t5⟩, v, rfl, ev, mv, rfl, hev, hmv⟩
 have HO1 := Lib.hid hev.one
 have HO2 := Lib.hid hmv.one
 have HOA := Lib.hid (show (#[.int .i64 x1.e, .int .i64 x1.ino, .int .i64 x1.size, .int .i64 x1.handle, .int .i64 x2.swaps, .bool x1.dir, ev, mv] : Array Value).all (·.oneCell') = true from by
  have a : ∀ k x, (Value.int k x).oneCell' = true := fun _ _ => rfl
  have b : ∀ x, (Value.bool x).oneCell' = true := fun _ => rfl
  simp [a, b, HO1.out, HO2.out])
 have HOB := Lib.hid (show (#[.int .i64 x1.e, .int .i64 x1.ino, .int .i64 x1.size, .int .i64 x1.handle, .int .i64 x1.swaps, .bool x1.dir, ev, mv] : Array Value).all (·.oneCell') = true from by
  have a : ∀ k x, (Value.int k x).oneCell' = true := fun _ _ => rfl
  have b : ∀ x, (Value.bool x).oneCell' = true := fun _ => rfl
  simp [a, b, HO1.out, HO2.out])
 have S5 := Lib.hid s5
 have T5 := Lib.hid t5
 have Z5 := Lib.hid (ZO.out.step s5 (by unfold stateC; omega))
 have Z4 := Lib.hid (ZR.out.step s5 (by unfold stateC; omega))
 clear s5 t5
 clear hev hmv
 obtain ⟨c1, c4, z4, KO, KR, FX⟩ := told3 (sw := .int .i64 x2.swaps) (y0 := .int .i64 x1.e) (y1 := .int .i64 x1.ino) (y2 := .int .i64 x1.size) (y3 := .int .i64 x1.handle) (y4 := .int .i64 x1.swaps) (y5 := .bool x1.dir) (y6 := ev) (y7 := mv) Z5.out.1 Z4.out.1 (by omega) (T5.out.cell 1) (fun e => by have a := T5.out.own; rw [e, Z5.out.2] at a; omega)
 go_wp2_with (first | (refine wpList_store_row rfl 29 (.tmp 5) (.tmp 54) rfl (b0 + 1 + 1) #[.int .i64 x1.e, .int .i64 x1.ino, .int .i64 x1.size, .int .i64 x1.handle, .int .i64 x1.swaps, .bool x1.dir, ev, mv] rfl rfl 29 _ Z5.out.1 Tryz.size29 rfl HOB.out ?_) | (refine wpList_load_row rfl 29 (.tmp 5) rfl (b0 + 1 + 1) rfl 29 _ (0, 0) _ KO.out Tryz.underlying29 rfl Tryz.size29 ?_) | (refine wpList_store_row rfl 29 (.tmp 4) (.tmp 71) rfl (b0 + 1) #[.int .i64 x1.e, .int .i64 x1.ino, .int .i64 x1.size, .int .i64 x1.handle, .int .i64 x2.swaps, .bool x1.dir, ev, mv] rfl rfl 29 _ KR.out Tryz.size29 rfl HOA.out ?_))
 have KF := setRow_at (cs' := #[.int .i64 x1.e, .int .i64 x1.ino, .int .i64 x1.size, .int .i64 x1.handle, .int .i64 x2.swaps, .bool x1.dir, ev, mv]) KR.out
 refine bodyPost_ret (v := .agg #[.int .i64 x1.e, .int .i64 x1.ino, .int .i64 x1.size, .int .i64 x1.handle, .int .i64 x2.swaps, .bool x1.dir, ev, mv]) (results_cell_row rfl _ _ (b0 + 1) 29 _ (0, 0) _ rfl KF Tryz.underlying29 rfl Tryz.size29) rfl ?_
 exact HQ.out _ _ _ ev mv T5.out S5.out HO1.out HO2.out ((FX.out.mono (fun _ _ e => Or.inr e)).trans (Fr.setRow (S := fun j => j = b0 + 1 ∨ j = b0 + 1 + 1) (Fr.refl _) (.inl (.inl rfl)) _) (fun _ _ e => e))
set_option maxHeartbeats 6400000 in
theorem gap52_ (o : Nat → Nat) (K n n' : Nat) (L : Plc) (S : St) (r : Req) (rv dv : Value) (w : World) (x : RepS × St) (h : StateAt w o K L S n) (ok : StOk S) (hf : Fresh w o) (hk : r.kind = 9) (ok' : StOk x.2) (HT : ∀ w1, Fr No w w1 → Calls Tryz.prog 49 #[.pointer (some ⟨L.s, 0, none⟩), .func (Fn.func 52) #[] #[], .agg (r.cells rv dv)] w1 (Tried w1 o K L n' x)) :
  Calls Tryz.prog 15 #[.pointer (some ⟨L.s, 0, none⟩), .agg (r.cells rv dv)] w (Told w o K L n' (withSw x.1 x.2.swaps, x.2)) := by
 have f0 : Fr No w (applyW w (r.cells rv dv)) := applyW_fr _ _
 have F0 := Lib.hid f0
 have H0 := h.no ok hf f0
 have G0 := (Step.no (C := fun _ => False) hf f0).fresh
 have k0 := applyW_q w (r.cells rv dv)
 have k1 := applyW_r w (r.cells rv dv)
 have k2 := applyW_o w (r.cells rv dv)
 have ZQ : Hid (Zero (applyW w (r.cells rv dv)) o w.heap.size (.cells (r.cells rv dv) 36 (0, 0))) := Lib.hid ⟨k0, hf _ (Nat.le_refl _)⟩
 have ZR : Hid (Zero (applyW w (r.cells rv dv)) o (w.heap.size + 1) (.cells #[.int .i64 0, .int .i64 0, .int .i64 0, .int .i64 0, .int .i64 0, .bool false, .slice none 0 0, .slice none 0 0] 29 (0, 0))) := Lib.hid ⟨k1, hf _ (Nat.le_succ _)⟩
 have ZO : Hid (Zero (applyW w (r.cells rv dv)) o (w.heap.size + 1 + 1) (.cells #[.int .i64 0, .int .i64 0, .int .i64 0, .int .i64 0, .int .i64 0, .bool false, .slice none 0 0, .slice none 0 0] 29 (0, 0))) := Lib.hid ⟨k2, hf _ (by omega)⟩
 have B2 := Lib.hid (lt_of_block k2)
 have fm : Fr No w ((w.alloc (.cells (r.cells rv dv) 36)).alloc (.cells #[.int .i64 0, .int .i64 0, .int .i64 0, .int .i64 0, .int .i64 0, .bool false, .slice none 0 0, .slice none 0 0] 29)) := ((Fr.refl w).alloc _).alloc _
 have HMD := Lib.hid (gmade_ o K n L S _ (h.no ok hf fm))
 have HTC := Lib.hid (HT _ f0)
 unfold Tried at HTC
 obtain ⟨x1, x2⟩ := x
 dsimp only at ok' HTC ⊢
 have HQ : Hid (∀ (w5 w3 : World) (o5 : Nat → Nat) ev mv, StateAt w5 o5 K L x2 n' → Step (stateC K) (applyW w (r.cells rv dv)) o w5 o5 → ev.oneCell' = true → mv.oneCell' = true → Fr (fun j => j = w.heap.size + 1 ∨ j = w.heap.size + 1 + 1) w5 w3 → Told w o K L n' (withSw x1 x2.swaps, x2) (.returned (.agg #[.int .i64 x1.e, .int .i64 x1.ino, .int .i64 x1.size, .int .i64 x1.handle, .int .i64 x2.swaps, .bool x1.dir, ev, mv])) w3) := Lib.hid (fun w5 w3 o5 ev mv t s h1 h2 g => by
  have hb := B2.out
  obtain ⟨a, b⟩ := lasts_ hf f0 s (fun j hj => by omega) g
  exact ⟨⟨o5, a, t.step ok' b (fun c h e => by unfold stateC at h; omega)⟩, ev, mv, rfl, h1, h2⟩)
 generalize hQQ : Told w o K L n' (withSw x1 x2.swaps, x2) = Q at *
 clear hQQ
 have HH := Lib.hid H0
 clear H0 G0 k0 k1 k2 f0 fm h ok hf HT ok'
 unfold applyW Req.cells at *
 try unfold RepS.cells at *
 generalize r.kind = kk at *
 subst hk
 go_enter Tryz.func15, Tryz.ntmps15
 go_wp2_with fail
 with_reducible refine HMD.out.mono ?_
 rintro e w' ⟨rfl, rfl⟩
 go_wp2_with fail
 refine (gdeed_ _ _).mono ?_
 rintro e w' ⟨rfl, rfl⟩
 generalize ((w.alloc (.cells #[.int .i64 r.c, .int .i64 r.l, .int .i64 r.q, .int .i64 9, .string (ba r.path), .string (ba r.to), .bool r.dir, .bool r.wr, .bool r.cl, .int .i64 r.h, .int .i64 r.nx, .int .i64 r.sw, rv, dv] 36)).alloc (.cells #[.int .i64 0, .int .i64 0, .int .i64 0, .int .i64 0, .int .i64 0, .bool false, .slice none 0 0, .slice none 0 0] 29)).alloc (.cells #[.int .i64 0, .int .i64 0, .int .i64 0, .int .i64 0, .int .i64 0, .bool false, .slice none 0 0, .slice none 0 0] 29) = w0 at *
 generalize hb0 : w.heap.size = b0 at *
 have q3 : w0.cell? ⟨b0, 3, none⟩ = some (.int .i64 9) := by rw [cell_at ZQ.out.1]; rfl
 go_wp2_with (refine wpList_load_row rfl 36 (.tmp 3) rfl b0 rfl 36 _ (0, 0) _ ZQ.out.1 Tryz.underlying36 rfl Tryz.size36 ?_)
 with_reducible refine HTC.out.mono ?_
 rintro e w5 ⟨⟨o5, s5, t5⟩, v, rfl, ev, mv, rfl, hev, hmv⟩
 have HO1 := Lib.hid hev.one
 have HO2 := Lib.hid hmv.one
 have HOA := Lib.hid (show (#[.int .i64 x1.e, .int .i64 x1.ino, .int .i64 x1.size, .int .i64 x1.handle, .int .i64 x2.swaps, .bool x1.dir, ev, mv] : Array Value).all (·.oneCell') = true from by
  have a : ∀ k x, (Value.int k x).oneCell' = true := fun _ _ => rfl
  have b : ∀ x, (Value.bool x).oneCell' = true := fun _ => rfl
  simp [a, b, HO1.out, HO2.out])
 have HOB := Lib.hid (show (#[.int .i64 x1.e, .int .i64 x1.ino, .int .i64 x1.size, .int .i64 x1.handle, .int .i64 x1.swaps, .bool x1.dir, ev, mv] : Array Value).all (·.oneCell') = true from by
  have a : ∀ k x, (Value.int k x).oneCell' = true := fun _ _ => rfl
  have b : ∀ x, (Value.bool x).oneCell' = true := fun _ => rfl
  simp [a, b, HO1.out, HO2.out])
 have S5 := Lib.hid s5
 have T5 := Lib.hid t5
 have Z5 := Lib.hid (ZO.out.step s5 (by unfold stateC; omega))
 have Z4 := Lib.hid (ZR.out.step s5 (by unfold stateC; omega))
 clear s5 t5
 clear hev hmv
 obtain ⟨c1, c4, z4, KO, KR, FX⟩ := told3 (sw := .int .i64 x2.swaps) (y0 := .int .i64 x1.e) (y1 := .int .i64 x1.ino) (y2 := .int .i64 x1.size) (y3 := .int .i64 x1.handle) (y4 := .int .i64 x1.swaps) (y5 := .bool x1.dir) (y6 := ev) (y7 := mv) Z5.out.1 Z4.out.1 (by omega) (T5.out.cell 1) (fun e => by have a := T5.out.own; rw [e, Z5.out.2] at a; omega)
 go_wp2_with (first | (refine wpList_store_row rfl 29 (.tmp 5) (.tmp 61) rfl (b0 + 1 + 1) #[.int .i64 x1.e, .int .i64 x1.ino, .int .i64 x1.size, .int .i64 x1.handle, .int .i64 x1.swaps, .bool x1.dir, ev, mv] rfl rfl 29 _ Z5.out.1 Tryz.size29 rfl HOB.out ?_) | (refine wpList_load_row rfl 29 (.tmp 5) rfl (b0 + 1 + 1) rfl 29 _ (0, 0) _ KO.out Tryz.underlying29 rfl Tryz.size29 ?_) | (refine wpList_store_row rfl 29 (.tmp 4) (.tmp 71) rfl (b0 + 1) #[.int .i64 x1.e, .int .i64 x1.ino, .int .i64 x1.size, .int .i64 x1.handle, .int .i64 x2.swaps, .bool x1.dir, ev, mv] rfl rfl 29 _ KR.out Tryz.size29 rfl HOA.out ?_))
 have KF := setRow_at (cs' := #[.int .i64 x1.e, .int .i64 x1.ino, .int .i64 x1.size, .int .i64 x1.handle, .int .i64 x2.swaps, .bool x1.dir, ev, mv]) KR.out
 refine bodyPost_ret (v := .agg #[.int .i64 x1.e, .int .i64 x1.ino, .int .i64 x1.size, .int .i64 x1.handle, .int .i64 x2.swaps, .bool x1.dir, ev, mv]) (results_cell_row rfl _ _ (b0 + 1) 29 _ (0, 0) _ rfl KF Tryz.underlying29 rfl Tryz.size29) rfl ?_
 exact HQ.out _ _ _ ev mv T5.out S5.out HO1.out HO2.out ((FX.out.mono (fun _ _ e => Or.inr e)).trans (Fr.setRow (S := fun j => j = b0 + 1 ∨ j = b0 + 1 + 1) (Fr.refl _) (.inl (.inl rfl)) _) (fun _ _ e => e))
set_option maxHeartbeats 6400000 in
theorem gap_none (o : Nat → Nat) (K n n' : Nat) (L : Plc) (S : St) (r : Req) (rv dv : Value) (w : World)  (h : StateAt w o K L S n) (ok : StOk S) (hf : Fresh w o) (hk : ¬ (1 ≤ r.kind ∧ r.kind ≤ 8)) (hk9 : (r.kind == 9) = false) (hk10 : (r.kind == 10) = false) (hk11 : (r.kind == 11) = false) (_hn : n' = n) :
  Calls Tryz.prog 15 #[.pointer (some ⟨L.s, 0, none⟩), .agg (r.cells rv dv)] w (Told w o K L n (withSw (plainRep 1 0 0 0 0 false) S.swaps, S)) := by
 have f0 : Fr No w (applyW w (r.cells rv dv)) := applyW_fr _ _
 have F0 := Lib.hid f0
 have H0 := h.no ok hf f0
 have G0 := (Step.no (C := fun _ => False) hf f0).fresh
 have k0 := applyW_q w (r.cells rv dv)
 have k1 := applyW_r w (r.cells rv dv)
 have k2 := applyW_o w (r.cells rv dv)
 have ZQ : Hid (Zero (applyW w (r.cells rv dv)) o w.heap.size (.cells (r.cells rv dv) 36 (0, 0))) := Lib.hid ⟨k0, hf _ (Nat.le_refl _)⟩
 have ZR : Hid (Zero (applyW w (r.cells rv dv)) o (w.heap.size + 1) (.cells #[.int .i64 0, .int .i64 0, .int .i64 0, .int .i64 0, .int .i64 0, .bool false, .slice none 0 0, .slice none 0 0] 29 (0, 0))) := Lib.hid ⟨k1, hf _ (Nat.le_succ _)⟩
 have ZO : Hid (Zero (applyW w (r.cells rv dv)) o (w.heap.size + 1 + 1) (.cells #[.int .i64 0, .int .i64 0, .int .i64 0, .int .i64 0, .int .i64 0, .bool false, .slice none 0 0, .slice none 0 0] 29 (0, 0))) := Lib.hid ⟨k2, hf _ (by omega)⟩
 have B2 := Lib.hid (lt_of_block k2)
 have fm : Fr No w ((w.alloc (.cells (r.cells rv dv) 36)).alloc (.cells #[.int .i64 0, .int .i64 0, .int .i64 0, .int .i64 0, .int .i64 0, .bool false, .slice none 0 0, .slice none 0 0] 29)) := ((Fr.refl w).alloc _).alloc _
 have HMD := Lib.hid (gmade_ o K n L S _ (h.no ok hf fm))
 have HQ : Hid (∀ (w3 : World), Fr (fun j => j = w.heap.size + 1 ∨ j = w.heap.size + 1 + 1) (applyW w (r.cells rv dv)) w3 → Told w o K L n (withSw (plainRep 1 0 0 0 0 false) S.swaps, S) (.returned (.agg #[.int .i64 1, .int .i64 0, .int .i64 0, .int .i64 0, .int .i64 S.swaps, .bool false, .slice none 0 0, .slice none 0 0])) w3) := Lib.hid (fun w3 g => by
  have hb := B2.out
  obtain ⟨a, b⟩ := lasts_ hf f0 (Step.refl (C := stateC K) G0) (fun j hj => by omega) g
  exact ⟨⟨o, a, H0.step ok b (fun c h e => by unfold stateC at h; omega)⟩, .slice none 0 0, .slice none 0 0, rfl, rfl, rfl⟩)
 generalize hQQ : Told w o K L n (withSw (plainRep 1 0 0 0 0 false) S.swaps, S) = Q at *
 clear hQQ
 have hv : deedV r.kind = .nilFunc := if_neg hk
 have HH := Lib.hid H0
 have hbd : ∀ w' : World, (Instr.build 29 #[(0, .int .i64 1)]).run Tryz.prog w' = .ok (.agg #[.int .i64 1, .int .i64 0, .int .i64 0, .int .i64 0, .int .i64 0, .bool false, .slice none 0 0, .slice none 0 0]) w' := fun w' => by kernel_rfl
 have HOB := Lib.hid (show (#[.int .i64 1, .int .i64 0, .int .i64 0, .int .i64 0, .int .i64 0, .bool false, .slice none 0 0, .slice none 0 0] : Array Value).all (·.oneCell') = true from by simp [Value.oneCell'])
 have HOA := Lib.hid (show (#[.int .i64 1, .int .i64 0, .int .i64 0, .int .i64 0, .int .i64 S.swaps, .bool false, .slice none 0 0, .slice none 0 0] : Array Value).all (·.oneCell') = true from by simp [Value.oneCell'])
 have hfn := fnnil_yes
 clear H0 G0 k0 k1 k2 f0 fm h ok hf hk
 unfold applyW Req.cells at *
 try unfold RepS.cells at *
 go_enter Tryz.func15, Tryz.ntmps15
 go_wp2_with fail
 with_reducible refine HMD.out.mono ?_
 rintro e w' ⟨rfl, rfl⟩
 go_wp2_with fail
 refine (gdeed_ _ _).mono ?_
 rintro e w' ⟨he, rfl⟩
 rw [hv] at he
 subst he
 generalize ((w.alloc (.cells #[.int .i64 r.c, .int .i64 r.l, .int .i64 r.q, .int .i64 r.kind, .string (ba r.path), .string (ba r.to), .bool r.dir, .bool r.wr, .bool r.cl, .int .i64 r.h, .int .i64 r.nx, .int .i64 r.sw, rv, dv] 36)).alloc (.cells #[.int .i64 0, .int .i64 0, .int .i64 0, .int .i64 0, .int .i64 0, .bool false, .slice none 0 0, .slice none 0 0] 29)).alloc (.cells #[.int .i64 0, .int .i64 0, .int .i64 0, .int .i64 0, .int .i64 0, .bool false, .slice none 0 0, .slice none 0 0] 29) = w0 at *
 generalize hb0 : w.heap.size = b0 at *
 have q3 : w0.cell? ⟨b0, 3, none⟩ = some (.int .i64 r.kind) := by rw [cell_at ZQ.out.1]; rfl
 obtain ⟨c1, c4, z4, KO, KR, FX⟩ := told3 (sw := .int .i64 S.swaps) (y0 := .int .i64 1) (y1 := .int .i64 0) (y2 := .int .i64 0) (y3 := .int .i64 0) (y4 := .int .i64 0) (y5 := .bool false) (y6 := .slice none 0 0) (y7 := .slice none 0 0) ZO.out.1 ZR.out.1 (by omega) (HH.out.cell 1) (fun e => by have a := HH.out.own; rw [e, ZO.out.2] at a; omega)
 go_wp2_with (first | (refine wpList_store_row rfl 29 (.tmp 5) (.tmp 65) rfl (b0 + 1 + 1) #[.int .i64 1, .int .i64 0, .int .i64 0, .int .i64 0, .int .i64 0, .bool false, .slice none 0 0, .slice none 0 0] rfl rfl 29 _ ZO.out.1 Tryz.size29 rfl HOB.out ?_) | (refine wpList_load_row rfl 29 (.tmp 5) rfl (b0 + 1 + 1) rfl 29 _ (0, 0) _ KO.out Tryz.underlying29 rfl Tryz.size29 ?_) | (refine wpList_store_row rfl 29 (.tmp 4) (.tmp 71) rfl (b0 + 1) #[.int .i64 1, .int .i64 0, .int .i64 0, .int .i64 0, .int .i64 S.swaps, .bool false, .slice none 0 0, .slice none 0 0] rfl rfl 29 _ KR.out Tryz.size29 rfl HOA.out ?_))
 have KF := setRow_at (cs' := #[.int .i64 1, .int .i64 0, .int .i64 0, .int .i64 0, .int .i64 S.swaps, .bool false, .slice none 0 0, .slice none 0 0]) KR.out
 refine bodyPost_ret (v := .agg #[.int .i64 1, .int .i64 0, .int .i64 0, .int .i64 0, .int .i64 S.swaps, .bool false, .slice none 0 0, .slice none 0 0]) (results_cell_row rfl _ _ (b0 + 1) 29 _ (0, 0) _ rfl KF Tryz.underlying29 rfl Tryz.size29) rfl ?_
 exact HQ.out _ ((FX.out.mono (fun _ _ e => Or.inr e)).trans (Fr.setRow (S := fun j => j = b0 + 1 ∨ j = b0 + 1 + 1) (Fr.refl _) (.inl (.inl rfl)) _) (fun _ _ e => e))
set_option maxHeartbeats 6400000 in
theorem gap_ask (o : Nat → Nat) (K n n' : Nat) (L : Plc) (S : St) (r : Req) (rv dv : Value) (w : World) (x : RepS × St) (kd : Int) (h : StateAt w o K L S n) (ok : StOk S) (hf : Fresh w o) (hk : 1 ≤ r.kind ∧ r.kind ≤ 8) (hwl : ∀ i life seq bs, S.W i = some (life, seq, bs) → bs.length ≤ 1000000) (hae : askOf S.W r.c r.l r.q = (kd, none)) (hkd : (kd == 1) = false) (ok' : StOk x.2) (HT : ∀ w1, Fr No w w1 → Calls Tryz.prog 55 #[.pointer (some ⟨L.s, 0, none⟩), deedV r.kind, .agg (r.cells rv dv), .int .i64 kd] w1 (Told w1 o K L n' x)) :
  Calls Tryz.prog 15 #[.pointer (some ⟨L.s, 0, none⟩), .agg (r.cells rv dv)] w (Told w o K L n' (withSw x.1 x.2.swaps, x.2)) := by
 have f0 : Fr No w (applyW w (r.cells rv dv)) := applyW_fr _ _
 have F0 := Lib.hid f0
 have H0 := h.no ok hf f0
 have G0 := (Step.no (C := fun _ => False) hf f0).fresh
 have k0 := applyW_q w (r.cells rv dv)
 have k1 := applyW_r w (r.cells rv dv)
 have k2 := applyW_o w (r.cells rv dv)
 have ZQ : Hid (Zero (applyW w (r.cells rv dv)) o w.heap.size (.cells (r.cells rv dv) 36 (0, 0))) := Lib.hid ⟨k0, hf _ (Nat.le_refl _)⟩
 have ZR : Hid (Zero (applyW w (r.cells rv dv)) o (w.heap.size + 1) (.cells #[.int .i64 0, .int .i64 0, .int .i64 0, .int .i64 0, .int .i64 0, .bool false, .slice none 0 0, .slice none 0 0] 29 (0, 0))) := Lib.hid ⟨k1, hf _ (Nat.le_succ _)⟩
 have ZO : Hid (Zero (applyW w (r.cells rv dv)) o (w.heap.size + 1 + 1) (.cells #[.int .i64 0, .int .i64 0, .int .i64 0, .int .i64 0, .int .i64 0, .bool false, .slice none 0 0, .slice none 0 0] 29 (0, 0))) := Lib.hid ⟨k2, hf _ (by omega)⟩
 have B2 := Lib.hid (lt_of_block k2)
 have fm : Fr No w ((w.alloc (.cells (r.cells rv dv) 36)).alloc (.cells #[.int .i64 0, .int .i64 0, .int .i64 0, .int .i64 0, .int .i64 0, .bool false, .slice none 0 0, .slice none 0 0] 29)) := ((Fr.refl w).alloc _).alloc _
 have HMD := Lib.hid (gmade_ o K n L S _ (h.no ok hf fm))
 have HTC : Hid (∀ w1, Fr No w w1 → Calls Tryz.prog 55 #[.pointer (some ⟨L.s, 0, none⟩), deedV r.kind, .agg (r.cells rv dv), .int .i64 kd] w1 (Told w1 o K L n' x)) := Lib.hid HT
 rw [show deedV r.kind = .func (Fn.func (81 + r.kind.toNat)) #[] #[] from if_pos hk] at HTC
 unfold Told at HTC
 obtain ⟨x1, x2⟩ := x
 dsimp only at ok' HTC ⊢
 have HQ : Hid (∀ (w5 w3 : World) (o5 : Nat → Nat) ev mv, StateAt w5 o5 K L x2 n' → Step (stateC K) (applyW w (r.cells rv dv)) o w5 o5 → ev.oneCell' = true → mv.oneCell' = true → Fr (fun j => j = w.heap.size + 1 ∨ j = w.heap.size + 1 + 1) w5 w3 → Told w o K L n' (withSw x1 x2.swaps, x2) (.returned (.agg #[.int .i64 x1.e, .int .i64 x1.ino, .int .i64 x1.size, .int .i64 x1.handle, .int .i64 x2.swaps, .bool x1.dir, ev, mv])) w3) := Lib.hid (fun w5 w3 o5 ev mv t s h1 h2 g => by
  have hb := B2.out
  obtain ⟨a, b⟩ := lasts_ hf f0 s (fun j hj => by omega) g
  exact ⟨⟨o5, a, t.step ok' b (fun c h e => by unfold stateC at h; omega)⟩, ev, mv, rfl, h1, h2⟩)
 generalize hQQ : Told w o K L n' (withSw x1 x2.swaps, x2) = Q at *
 clear hQQ
 have HH := Lib.hid H0
 have HG0 := Lib.hid G0
 have HOK := Lib.hid ok
 have HWL := Lib.hid hwl
 have HAE := Lib.hid hae
 have hk9 : (r.kind == 9) = false := by simp; omega
 have hk10 : (r.kind == 10) = false := by simp; omega
 have hk11 : (r.kind == 11) = false := by simp; omega
 have hv : deedV r.kind = .func (Fn.func (81 + r.kind.toNat)) #[] #[] := if_pos hk
 have hfn := fnnil_f (81 + r.kind.toNat)
 clear H0 G0 k0 k1 k2 f0 fm h ok hf HT ok' hwl hae
 generalize 81 + r.kind.toNat = fnn at *
 unfold applyW Req.cells at *
 try unfold RepS.cells at *
 go_enter Tryz.func15, Tryz.ntmps15
 go_wp2_with fail
 with_reducible refine HMD.out.mono ?_
 rintro e w' ⟨rfl, rfl⟩
 go_wp2_with fail
 refine (gdeed_ _ _).mono ?_
 rintro e w' ⟨he, rfl⟩
 rw [hv] at he
 subst he
 clear hv
 generalize 81 + r.kind.toNat = fnn at *
 generalize ((w.alloc (.cells #[.int .i64 r.c, .int .i64 r.l, .int .i64 r.q, .int .i64 r.kind, .string (ba r.path), .string (ba r.to), .bool r.dir, .bool r.wr, .bool r.cl, .int .i64 r.h, .int .i64 r.nx, .int .i64 r.sw, rv, dv] 36)).alloc (.cells #[.int .i64 0, .int .i64 0, .int .i64 0, .int .i64 0, .int .i64 0, .bool false, .slice none 0 0, .slice none 0 0] 29)).alloc (.cells #[.int .i64 0, .int .i64 0, .int .i64 0, .int .i64 0, .int .i64 0, .bool false, .slice none 0 0, .slice none 0 0] 29) = w0 at *
 generalize hb0 : w.heap.size = b0 at *
 have c8 : w0.cell? ⟨L.s, 8, none⟩ = some (.pointer (some ⟨L.win, 0, none⟩)) := HH.out.cell 8
 have q0 : w0.cell? ⟨b0, 0, none⟩ = some (.int .i64 r.c) := by rw [cell_at ZQ.out.1]; rfl
 have q1 : w0.cell? ⟨b0, 1, none⟩ = some (.int .i64 r.l) := by rw [cell_at ZQ.out.1]; rfl
 have q2 : w0.cell? ⟨b0, 2, none⟩ = some (.int .i64 r.q) := by rw [cell_at ZQ.out.1]; rfl
 have q3 : w0.cell? ⟨b0, 3, none⟩ = some (.int .i64 r.kind) := by rw [cell_at ZQ.out.1]; rfl
 have fz : Fr No w0 w0.drew := (Fr.refl _).drew
 have HK := Lib.hid (gask_ o (K + 1) L.win S.W r.c r.l r.q w0.drew (HH.out.no HOK.out HG0.out fz).win HWL.out)
 unfold AskPost at HK
 rw [HAE.out] at HK
 dsimp only at HK
 clear fz
 go_wp2_with fail
 go_region_held3 (fun w' => w'.cell? ⟨L.s, 8, none⟩ = some (.pointer (some ⟨L.win, 0, none⟩)) ∧ w'.cell? ⟨b0, 0, none⟩ = some (.int .i64 r.c) ∧ w'.cell? ⟨b0, 1, none⟩ = some (.int .i64 r.l) ∧ w'.cell? ⟨b0, 2, none⟩ = some (.int .i64 r.q)) (first | go_keep | (go_split_ands; refine ⟨?_, ?_, ?_, ?_⟩ <;> exact f1.cell_of (by assumption) id))
  ((go_at_call 53; refine HK.out.mono ?_; rintro e w1 ⟨f1, rfl⟩))
 have F1 := Lib.hid ((Fr.refl (S := No) w0).drew.trans f1 (fun _ _ e => e))
 have ZQ1 := Lib.hid (ZQ.out.no F1.out)
 have ZR1 := Lib.hid (ZR.out.no F1.out)
 have ZO1 := Lib.hid (ZO.out.no F1.out)
 clear f1 c8 q0 q1 q2 q3
 have HTD := Lib.hid (HTC.out w1 (F0.out.trans F1.out (fun _ _ e => e)))
 go_wp2_with (refine wpList_load_row rfl 36 (.tmp 3) rfl b0 rfl 36 _ (0, 0) _ ZQ1.out.1 Tryz.underlying36 rfl Tryz.size36 ?_)
 with_reducible refine HTD.out.mono ?_
 rintro e w5 ⟨⟨o5, s5, t5⟩, ev, mv, rfl, hev, hmv⟩
 have HO1 := Lib.hid hev
 have HO2 := Lib.hid hmv
 have HOA := Lib.hid (show (#[.int .i64 x1.e, .int .i64 x1.ino, .int .i64 x1.size, .int .i64 x1.handle, .int .i64 x2.swaps, .bool x1.dir, ev, mv] : Array Value).all (·.oneCell') = true from by
  have a : ∀ k x, (Value.int k x).oneCell' = true := fun _ _ => rfl
  have b : ∀ x, (Value.bool x).oneCell' = true := fun _ => rfl
  simp [a, b, HO1.out, HO2.out])
 have HOB := Lib.hid (show (#[.int .i64 x1.e, .int .i64 x1.ino, .int .i64 x1.size, .int .i64 x1.handle, .int .i64 x1.swaps, .bool x1.dir, ev, mv] : Array Value).all (·.oneCell') = true from by
  have a : ∀ k x, (Value.int k x).oneCell' = true := fun _ _ => rfl
  have b : ∀ x, (Value.bool x).oneCell' = true := fun _ => rfl
  simp [a, b, HO1.out, HO2.out])
 have S5 : Hid (Step (stateC K) w0 o w5 o5) := Lib.hid (((Step.no (C := fun _ => False) HG0.out F1.out).mono (fun _ e => e.elim)).trans s5 (fun _ e => e))
 have T5 := Lib.hid t5
 have Z5 := Lib.hid (ZO1.out.step s5 (by unfold stateC; omega))
 have Z4 := Lib.hid (ZR1.out.step s5 (by unfold stateC; omega))
 clear s5 t5 hev hmv
 obtain ⟨c1, c4, z4, KO, KR, FX⟩ := told3 (sw := .int .i64 x2.swaps) (y0 := .int .i64 x1.e) (y1 := .int .i64 x1.ino) (y2 := .int .i64 x1.size) (y3 := .int .i64 x1.handle) (y4 := .int .i64 x1.swaps) (y5 := .bool x1.dir) (y6 := ev) (y7 := mv) Z5.out.1 Z4.out.1 (by omega) (T5.out.cell 1) (fun e => by have a := T5.out.own; rw [e, Z5.out.2] at a; omega)
 go_wp2_with (first | (refine wpList_store_row rfl 29 (.tmp 5) (.tmp 40) rfl (b0 + 1 + 1) #[.int .i64 x1.e, .int .i64 x1.ino, .int .i64 x1.size, .int .i64 x1.handle, .int .i64 x1.swaps, .bool x1.dir, ev, mv] rfl rfl 29 _ Z5.out.1 Tryz.size29 rfl HOB.out ?_) | (refine wpList_load_row rfl 29 (.tmp 5) rfl (b0 + 1 + 1) rfl 29 _ (0, 0) _ KO.out Tryz.underlying29 rfl Tryz.size29 ?_) | (refine wpList_store_row rfl 29 (.tmp 4) (.tmp 71) rfl (b0 + 1) #[.int .i64 x1.e, .int .i64 x1.ino, .int .i64 x1.size, .int .i64 x1.handle, .int .i64 x2.swaps, .bool x1.dir, ev, mv] rfl rfl 29 _ KR.out Tryz.size29 rfl HOA.out ?_))
 have KF := setRow_at (cs' := #[.int .i64 x1.e, .int .i64 x1.ino, .int .i64 x1.size, .int .i64 x1.handle, .int .i64 x2.swaps, .bool x1.dir, ev, mv]) KR.out
 refine bodyPost_ret (v := .agg #[.int .i64 x1.e, .int .i64 x1.ino, .int .i64 x1.size, .int .i64 x1.handle, .int .i64 x2.swaps, .bool x1.dir, ev, mv]) (results_cell_row rfl _ _ (b0 + 1) 29 _ (0, 0) _ rfl KF Tryz.underlying29 rfl Tryz.size29) rfl ?_
 exact HQ.out _ _ _ ev mv T5.out S5.out HO1.out HO2.out ((FX.out.mono (fun _ _ e => Or.inr e)).trans (Fr.setRow (S := fun j => j = b0 + 1 ∨ j = b0 + 1 + 1) (Fr.refl _) (.inl (.inl rfl)) _) (fun _ _ e => e))
set_option maxHeartbeats 6400000 in
theorem gap_again (o : Nat → Nat) (K n n' : Nat) (L : Plc) (S : St) (r : Req) (rv dv : Value) (w : World) (x1 : RepS) (h : StateAt w o K L S n) (ok : StOk S) (hf : Fresh w o) (hk : 1 ≤ r.kind ∧ r.kind ≤ 8) (hwl : ∀ i life seq bs, S.W i = some (life, seq, bs) → bs.length ≤ 1000000) (hae : askOf S.W r.c r.l r.q = (1, some x1.bytes)) (hok : x1.ok) (h18 : x1.e ≤ 18) (_hn : n' = n) :
  Calls Tryz.prog 15 #[.pointer (some ⟨L.s, 0, none⟩), .agg (r.cells rv dv)] w (Told w o K L n (x1, S)) := by
 have f0 : Fr No w (applyW w (r.cells rv dv)) := applyW_fr _ _
 have F0 := Lib.hid f0
 have H0 := h.no ok hf f0
 have G0 := (Step.no (C := fun _ => False) hf f0).fresh
 have k0 := applyW_q w (r.cells rv dv)
 have k1 := applyW_r w (r.cells rv dv)
 have k2 := applyW_o w (r.cells rv dv)
 have ZQ : Hid (Zero (applyW w (r.cells rv dv)) o w.heap.size (.cells (r.cells rv dv) 36 (0, 0))) := Lib.hid ⟨k0, hf _ (Nat.le_refl _)⟩
 have ZR : Hid (Zero (applyW w (r.cells rv dv)) o (w.heap.size + 1) (.cells #[.int .i64 0, .int .i64 0, .int .i64 0, .int .i64 0, .int .i64 0, .bool false, .slice none 0 0, .slice none 0 0] 29 (0, 0))) := Lib.hid ⟨k1, hf _ (Nat.le_succ _)⟩
 have ZO : Hid (Zero (applyW w (r.cells rv dv)) o (w.heap.size + 1 + 1) (.cells #[.int .i64 0, .int .i64 0, .int .i64 0, .int .i64 0, .int .i64 0, .bool false, .slice none 0 0, .slice none 0 0] 29 (0, 0))) := Lib.hid ⟨k2, hf _ (by omega)⟩
 have B2 := Lib.hid (lt_of_block k2)
 have fm : Fr No w ((w.alloc (.cells (r.cells rv dv) 36)).alloc (.cells #[.int .i64 0, .int .i64 0, .int .i64 0, .int .i64 0, .int .i64 0, .bool false, .slice none 0 0, .slice none 0 0] 29)) := ((Fr.refl w).alloc _).alloc _
 have HMD := Lib.hid (gmade_ o K n L S _ (h.no ok hf fm))
 have HQ : Hid (∀ (w5 w3 : World) ev mv, ev.oneCell' = true → mv.oneCell' = true → Fr No (applyW w (r.cells rv dv)) w5 → Fr (fun j => j = w.heap.size + 1) w5 w3 → Told w o K L n (x1, S) (.returned (.agg #[.int .i64 x1.e, .int .i64 x1.ino, .int .i64 x1.size, .int .i64 x1.handle, .int .i64 x1.swaps, .bool x1.dir, ev, mv])) w3) := Lib.hid (fun w5 w3 ev mv h1 h2 f g => by
  have hb := B2.out
  obtain ⟨a, b⟩ := lasts_ hf f0 ((Step.no (C := fun _ => False) G0 f).mono (D := stateC K) (fun _ e => e.elim)) (fun j hj => by omega) g
  exact ⟨⟨o, a, (H0.no ok G0 f).step ok b (fun c h e => by unfold stateC at h; omega)⟩, ev, mv, rfl, h1, h2⟩)
 generalize hQQ : Told w o K L n (x1, S) = Q at *
 clear hQQ
 have HH := Lib.hid H0
 have HG0 := Lib.hid G0
 have HOK := Lib.hid ok
 have HWL := Lib.hid hwl
 have HAE := Lib.hid hae
 have hk9 : (r.kind == 9) = false := by simp; omega
 have hk10 : (r.kind == 10) = false := by simp; omega
 have hk11 : (r.kind == 11) = false := by simp; omega
 have hv : deedV r.kind = .func (Fn.func (81 + r.kind.toNat)) #[] #[] := if_pos hk
 have hfn := fnnil_f (81 + r.kind.toNat)
 have HDX := Lib.hid (And.intro hok (And.intro h18 hok.len))
 clear H0 G0 k0 k1 k2 f0 fm h ok hf hwl hae hok h18
 unfold applyW Req.cells at *
 try unfold RepS.cells at *
 go_enter Tryz.func15, Tryz.ntmps15
 go_wp2_with fail
 with_reducible refine HMD.out.mono ?_
 rintro e w' ⟨rfl, rfl⟩
 go_wp2_with fail
 refine (gdeed_ _ _).mono ?_
 rintro e w' ⟨he, rfl⟩
 rw [hv] at he
 subst he
 clear hv
 generalize 81 + r.kind.toNat = fnn at *
 generalize ((w.alloc (.cells #[.int .i64 r.c, .int .i64 r.l, .int .i64 r.q, .int .i64 r.kind, .string (ba r.path), .string (ba r.to), .bool r.dir, .bool r.wr, .bool r.cl, .int .i64 r.h, .int .i64 r.nx, .int .i64 r.sw, rv, dv] 36)).alloc (.cells #[.int .i64 0, .int .i64 0, .int .i64 0, .int .i64 0, .int .i64 0, .bool false, .slice none 0 0, .slice none 0 0] 29)).alloc (.cells #[.int .i64 0, .int .i64 0, .int .i64 0, .int .i64 0, .int .i64 0, .bool false, .slice none 0 0, .slice none 0 0] 29) = w0 at *
 generalize hb0 : w.heap.size = b0 at *
 have c8 : w0.cell? ⟨L.s, 8, none⟩ = some (.pointer (some ⟨L.win, 0, none⟩)) := HH.out.cell 8
 have q0 : w0.cell? ⟨b0, 0, none⟩ = some (.int .i64 r.c) := by rw [cell_at ZQ.out.1]; rfl
 have q1 : w0.cell? ⟨b0, 1, none⟩ = some (.int .i64 r.l) := by rw [cell_at ZQ.out.1]; rfl
 have q2 : w0.cell? ⟨b0, 2, none⟩ = some (.int .i64 r.q) := by rw [cell_at ZQ.out.1]; rfl
 have q3 : w0.cell? ⟨b0, 3, none⟩ = some (.int .i64 r.kind) := by rw [cell_at ZQ.out.1]; rfl
 have fz : Fr No w0 w0.drew := (Fr.refl _).drew
 have HK := Lib.hid (gask_ o (K + 1) L.win S.W r.c r.l r.q w0.drew (HH.out.no HOK.out HG0.out fz).win HWL.out)
 unfold AskPost at HK
 rw [HAE.out] at HK
 dsimp only at HK
 clear fz
 go_wp2_with fail
 go_region_held3 (fun w' => w'.cell? ⟨L.s, 8, none⟩ = some (.pointer (some ⟨L.win, 0, none⟩)) ∧ w'.cell? ⟨b0, 0, none⟩ = some (.int .i64 r.c) ∧ w'.cell? ⟨b0, 1, none⟩ = some (.int .i64 r.l) ∧ w'.cell? ⟨b0, 2, none⟩ = some (.int .i64 r.q)) (first | go_keep | (go_split_ands; refine ⟨?_, ?_, ?_, ?_⟩ <;> exact f1.cell_of (by assumption) id))
  ((go_at_call 53; refine HK.out.mono ?_; rintro e w1 ⟨f1, v, b, c, rfl, sl, hbv⟩; obtain rfl := sl.1))
 have F1 := Lib.hid ((Fr.refl (S := No) w0).drew.trans f1 (fun _ _ e => e))
 have ZQ1 := Lib.hid (ZQ.out.no F1.out)
 have ZR1 := Lib.hid (ZR.out.no F1.out)
 have ZO1 := Lib.hid (ZO.out.no F1.out)
 clear f1 hbv c8 q0 q1 q2 q3
 have SL := Lib.hid sl
 have HDC := Lib.hid (gdecode_ _ x1 HDX.out.1 HDX.out.2.1 (by have := HDX.out.2.2; omega) b 0 c w1 SL.out)
 unfold RepS.cells at HDC
 clear sl
 go_wp2_with fail
 refine HDC.out.mono ?_
 rintro e w2 ⟨ev, mv, rfl, hev, hmv, f2⟩
 have HO1 := Lib.hid hev.one
 have HO2 := Lib.hid hmv.one
 have HOA := Lib.hid (show (#[.int .i64 x1.e, .int .i64 x1.ino, .int .i64 x1.size, .int .i64 x1.handle, .int .i64 x1.swaps, .bool x1.dir, ev, mv] : Array Value).all (·.oneCell') = true from by
  have a : ∀ k x, (Value.int k x).oneCell' = true := fun _ _ => rfl
  have b : ∀ x, (Value.bool x).oneCell' = true := fun _ => rfl
  simp [a, b, HO1.out, HO2.out])
 have KN := Lib.hid (new_at w2 (.cells #[.int .i64 0, .int .i64 0, .int .i64 0, .int .i64 0, .int .i64 0, .bool false, .slice none 0 0, .slice none 0 0] 29))
 have K9 := Lib.hid (setRow_at (cs' := #[.int .i64 x1.e, .int .i64 x1.ino, .int .i64 x1.size, .int .i64 x1.handle, .int .i64 x1.swaps, .bool x1.dir, ev, mv]) KN.out)
 have FN : Hid (Fr No w0 ((w2.alloc (.cells #[.int .i64 0, .int .i64 0, .int .i64 0, .int .i64 0, .int .i64 0, .bool false, .slice none 0 0, .slice none 0 0] 29)).setRow w2.heap.size #[.int .i64 x1.e, .int .i64 x1.ino, .int .i64 x1.size, .int .i64 x1.handle, .int .i64 x1.swaps, .bool x1.dir, ev, mv])) := Lib.hid (Fr.setRow ((F1.out.trans f2 (fun _ _ e => e)).alloc _) (.inr (F1.out.trans f2 (fun _ _ e => e)).size) _)
 have Z4 := Lib.hid (ZR.out.no FN.out)
 clear hev hmv f2
 go_wp2_with (first | (refine wpList_store_row rfl 29 (.tmp 9) (.tmp 33) rfl w2.heap.size #[.int .i64 x1.e, .int .i64 x1.ino, .int .i64 x1.size, .int .i64 x1.handle, .int .i64 x1.swaps, .bool x1.dir, ev, mv] rfl rfl 29 _ KN.out Tryz.size29 rfl HOA.out ?_) | (refine wpList_load_row rfl 29 (.tmp 9) rfl w2.heap.size rfl 29 _ (0, 0) _ K9.out Tryz.underlying29 rfl Tryz.size29 ?_) | (refine wpList_store_row rfl 29 (.tmp 4) (.tmp 35) rfl (b0 + 1) #[.int .i64 x1.e, .int .i64 x1.ino, .int .i64 x1.size, .int .i64 x1.handle, .int .i64 x1.swaps, .bool x1.dir, ev, mv] rfl rfl 29 _ Z4.out.1 Tryz.size29 rfl HOA.out ?_))
 have KF := setRow_at (cs' := #[.int .i64 x1.e, .int .i64 x1.ino, .int .i64 x1.size, .int .i64 x1.handle, .int .i64 x1.swaps, .bool x1.dir, ev, mv]) Z4.out.1
 refine bodyPost_ret (v := .agg #[.int .i64 x1.e, .int .i64 x1.ino, .int .i64 x1.size, .int .i64 x1.handle, .int .i64 x1.swaps, .bool x1.dir, ev, mv]) (results_cell_row rfl _ _ (b0 + 1) 29 _ (0, 0) _ rfl KF Tryz.underlying29 rfl Tryz.size29) rfl ?_
 exact HQ.out _ _ ev mv HO1.out HO2.out FN.out (Fr.setRow (S := fun j => j = b0 + 1) (Fr.refl _) (.inl rfl) _)
end Go.Proofs.YtlcojhddnpmgmaaGreat
