/- Parts: Asked: what a client asks, once. Walked. (Printed by wip/tools/jggen.py.) -/
import Derived.Test.YtlcojhddnpmgmaaGreatM25
import Derived.Test.YtlcojhddnpmgmaaGreatM26
set_option linter.unusedSimpArgs false
set_option linter.unusedVariables false
set_option maxRecDepth 100000
namespace Go.Proofs.YtlcojhddnpmgmaaGreat
open Go.RowKit
def Told (w : World) (o : Nat → Nat) (K : Nat) (L : Plc) (n : Nat) (x : RepS × St) (e : Ending) (w' : World) : Prop :=
 (∃ o', Step (stateC K) w o w' o' ∧ StateAt w' o' K L x.2 n) ∧ ∃ ev mv, e = .returned (.agg (x.1.cells ev mv)) ∧ ev.oneCell' = true ∧ mv.oneCell' = true
def askB (S : St) (c : Nat) (kind : Int) : St := if kind = 3 then { S with K := S.K.filter (fun y => !(y.c == (c : Int))), next := updN S.next c 0, clock := S.clock + 1 } else { S with clock := S.clock + 1 }
def withSw (x : RepS) (s : Int) : RepS := { x with swaps := s }
def askedS (x : RepS × St) (c : Nat) (r : Req) : RepS × St := (withSw x.1 x.2.swaps, { x.2 with W := upd x.2.W c (some (r.l, r.q, (withSw x.1 x.2.swaps).bytes)) })
theorem triedOf_st (x : Int × RepS × St) : (triedOf x).2 = x.2.2 := by unfold triedOf; split <;> rfl
theorem StateAt.newWin {w w' : World} {o o' : Nat → Nat} {K n : Nat} {L : Plc} {S : St} {W' : Nat → Option WRow} (h : StateAt w o K L S n) (ok : StOk S) (s : Step (fun c => c = K + 1) w o w' o') (t : WinAt w' o' (K + 1) L.win W') : StateAt w' o' K L { S with W := W' } n where
 own := (s.own h.cs).trans h.own
 cs := s.block h.cs (by rw [h.own]; omega)
 win := t
 tree := h.tree.step ok.tree s (fun c e => by unfold treeC at e; omega)
 tok := h.tok.step s (by omega) (by omega)
 files := h.files.step ok.file s (by omega) (fun i hi c e => by unfold fileC at e; omega)
 uses := h.uses.step s (by omega)
theorem told3 {w1 : World} {b5 b4 s : Nat} {ro rr : Array Value} {sw y0 y1 y2 y3 y4 y5 y6 y7 : Value} (k5 : w1.heap[b5]? = some (.cells ro 29 (0, 0))) (k4 : w1.heap[b4]? = some (.cells rr 29 (0, 0))) (hne : b4 ≠ b5) (hs : w1.cell? ⟨s, 1, none⟩ = some sw) (hsne : s ≠ b5) :
  (w1.setRow b5 #[y0, y1, y2, y3, y4, y5, y6, y7]).cell? ⟨s, 1, none⟩ = some sw ∧ (w1.setRow b5 #[y0, y1, y2, y3, y4, y5, y6, y7]).cell? ⟨b5, 4, none⟩ = some y4 ∧ (w1.setRow b5 #[y0, y1, y2, y3, y4, y5, y6, y7]).frozen? ⟨b5, 4, none⟩ = false ∧
  Hid (((w1.setRow b5 #[y0, y1, y2, y3, y4, y5, y6, y7]).setCell ⟨b5, 4, none⟩ sw).heap[b5]? = some (.cells #[y0, y1, y2, y3, sw, y5, y6, y7] 29 (0, 0))) ∧
  Hid (((w1.setRow b5 #[y0, y1, y2, y3, y4, y5, y6, y7]).setCell ⟨b5, 4, none⟩ sw).heap[b4]? = some (.cells rr 29 (0, 0))) ∧
  Hid (Fr (fun k => k = b5) w1 ((w1.setRow b5 #[y0, y1, y2, y3, y4, y5, y6, y7]).setCell ⟨b5, 4, none⟩ sw)) := by
 have k1 := setRow_at (cs' := #[y0, y1, y2, y3, y4, y5, y6, y7]) k5
 have fs : Fr (fun k => k = b5) w1 (w1.setRow b5 #[y0, y1, y2, y3, y4, y5, y6, y7]) := Fr.setRow (S := fun k => k = b5) (Fr.refl w1) (.inl rfl) _
 have ft : Fr (fun k => k = b5) w1 ((w1.setRow b5 #[y0, y1, y2, y3, y4, y5, y6, y7]).setCell ⟨b5, 4, none⟩ sw) := fs.setCell (.inl rfl) _
 refine ⟨fs.cell_of hs hsne, ?_, frozen_at k1 4, Lib.hid ?_, Lib.hid (ft.block_of k4 hne), Lib.hid ft⟩
 ·rw [cell_at k1]; rfl
 ·simpa using setCell_at k1 4 sw
set_option maxHeartbeats 12800000 in
theorem gasked_ (o : Nat → Nat) (K n n' : Nat) (L : Plc) (S : St) (r : Req) (rv dv fv : Value) (kind : Int) (w : World) (x : RepS × St) (h : StateAt w o K L S n) (ok : StOk S) (hf : Fresh w o) (hc : 0 ≤ r.c ∧ r.c < 4) (hk : kind = 0 ∨ kind = 3) (hclk : 0 ≤ S.clock ∧ S.clock ≤ 1000000)
  (hask : (askOf S.W r.c r.l r.q).1 = kind) (hwl : ∀ i life seq bs, S.W i = some (life, seq, bs) → bs.length ≤ 1000000) (hW : x.2.W = S.W) (ok' : StOk x.2) (hrep : (withSw x.1 x.2.swaps).ok)
  (HT : ∀ w1 o1, Step (stateC K) w o w1 o1 → StateAt w1 o1 K L (askB S r.c.toNat kind) n → Calls Tryz.prog 49 #[.pointer (some ⟨L.s, 0, none⟩), fv, .agg (r.cells rv dv)] w1 (Tried w1 o1 K L n' x)) :
  Calls Tryz.prog 55 #[.pointer (some ⟨L.s, 0, none⟩), fv, .agg (r.cells rv dv), .int .i64 kind] w (Told w o K L n' (askedS x r.c.toNat r)) := by
 have mixed : Tryz.prog.follows .mixedOrders = true := by kernel_rfl
 obtain ⟨f0, k0, k1, H0, G0⟩ := begun h ok hf r rv dv
 have F0 := Lib.hid f0
 obtain ⟨cn, hcn⟩ : ∃ cn : Nat, r.c = (cn : Int) := ⟨r.c.toNat, by omega⟩
 have hcn4 : cn < 4 := by omega
 have hq1 : (0 : Int) ≤ (cn : Int) := by omega
 have hq2 : (cn : Int) < 5 := by omega
 have hq3 : ¬ (cn : Int) < 0 := by omega
 have hq4 : ¬ (5 : Int) ≤ (cn : Int) := by omega
 have hct : r.c.toNat = cn := by rw [hcn, Int.toNat_natCast]
 rw [hct] at *
 have HTT := Lib.hid HT
 obtain ⟨x1, x2⟩ := x
 dsimp only at hW ok' hrep
 have HQ : Hid (∀ e w' w'' w3 o' ev mv, e = .returned (.agg ((withSw x1 x2.swaps).cells ev mv)) → ev.oneCell' = true → mv.oneCell' = true → Fr No w w' → w.heap.size + 1 < w'.heap.size → Step (stateC K) w' o w'' o' → StateAt w'' o' K L { x2 with W := upd x2.W cn (some (r.l, r.q, (withSw x1 x2.swaps).bytes)) } n' → Fr (fun j => j = w.heap.size + 1) w'' w3 → Told w o K L n' (askedS (x1, x2) cn r) e w3) := Lib.hid (fun e w' w'' w3 o' ev mv he h1 h2 f hs s t g => by
  obtain ⟨a, b⟩ := last_ hf f s (Nat.le_succ _) hs g
  exact ⟨⟨o', a, t.step ⟨ok'.tree, ok'.file⟩ b (fun c h e => by unfold stateC at h; omega)⟩, ev, mv, he, h1, h2⟩)
 generalize hQQ : Told w o K L n' (askedS (x1, x2) cn r) = Q at *
 clear hQQ
 have HBY : Hid ((withSw x1 x2.swaps).bytes.length ≤ 1000000) := Lib.hid (by have := hrep.len; omega)
 have HRP := Lib.hid hrep
 have HH := Lib.hid H0
 have HG0 := Lib.hid G0
 have HOK := Lib.hid ok
 have HOK' := Lib.hid ok'
 have HWE := Lib.hid hW
 have HWL := Lib.hid hwl
 have HAK := Lib.hid hask
 have HO0 : Hid (o w.heap.size = 0 ∧ o (w.heap.size + 1) = 0) := Lib.hid ⟨hf _ (Nat.le_refl _), hf _ (Nat.le_succ _)⟩
 have F00 : Hid (Step (stateC K) w o (deedW w r rv dv) o) := Lib.hid ((Step.no (C := fun _ => False) hf f0).mono (fun _ e => e.elim))
 clear H0 G0 f0 h ok ok' hf hask hwl hW HT hrep
 unfold deedW Req.cells noRep RepS.cells at *
 clear hct
 generalize r.c = rc at *
 subst hcn
 rcases hk with rfl | rfl
 ·go_enter Tryz.func55, Tryz.ntmps55
  go_upto_region 1 with fail
  generalize (w.alloc (.cells #[.int .i64 cn, .int .i64 r.l, .int .i64 r.q, .int .i64 r.kind, .string (ba r.path), .string (ba r.to), .bool r.dir, .bool r.wr, .bool r.cl, .int .i64 r.h, .int .i64 r.nx, .int .i64 r.sw, rv, dv] 36)).alloc (.cells #[.int .i64 0, .int .i64 0, .int .i64 0, .int .i64 0, .int .i64 0, .bool false, .slice none 0 0, .slice none 0 0] 29) = w0 at *
  have B1 := Lib.hid (lt_of_block k1)
  generalize hb0 : w.heap.size = b0 at *
  have ZQ : Hid (Zero w0 o b0 (.cells #[.int .i64 cn, .int .i64 r.l, .int .i64 r.q, .int .i64 r.kind, .string (ba r.path), .string (ba r.to), .bool r.dir, .bool r.wr, .bool r.cl, .int .i64 r.h, .int .i64 r.nx, .int .i64 r.sw, rv, dv] 36 (0, 0))) := Lib.hid ⟨k0, HO0.out.1⟩
  have ZP : Hid (Zero w0 o (b0 + 1) (.cells #[.int .i64 0, .int .i64 0, .int .i64 0, .int .i64 0, .int .i64 0, .bool false, .slice none 0 0, .slice none 0 0] 29 (0, 0))) := Lib.hid ⟨k1, HO0.out.2⟩
  clear k0 k1
  have w1 : IntKind.i64.wrap (S.clock + 1) = S.clock + 1 := by rw [IntKind.wrap_i64]; omega
  have TT : Hid (StateAt w0 o K L S n) := HH
  have FT := HG0
  have ST : Hid (Step (stateC K) w0 o w0 o) := Lib.hid (Step.refl HG0.out)
  have ZQt := ZQ
  have ZPt := ZP
  have OKT := HOK
  obtain ⟨sC, tC⟩ := TT.out.set (S' := askB S cn 0) OKT.out FT.out 2 (.int .i64 (S.clock + 1)) (by simp [stC, askB]) rfl rfl rfl rfl rfl
  have c2 : w0.cell? ⟨L.s, 2, none⟩ = some (.int .i64 S.clock) := TT.out.cell 2
  have z2 : w0.frozen? ⟨L.s, 2, none⟩ = false := frozen_at TT.out.cs 2
  have SC : Hid (Step (stateC K) w0 o (w0.setCell ⟨L.s, 2, none⟩ (.int .i64 (S.clock + 1))) o) := Lib.hid (ST.out.trans (sC.mono (fun c e => by unfold stateC; omega)) (fun _ e => e))
  have TC := Lib.hid tC
  have ZQc := Lib.hid (ZQt.out.step sC (by omega))
  have ZPc := Lib.hid (ZPt.out.step sC (by omega))
  have HTC := Lib.hid (HTT.out _ o (F00.out.trans SC.out (fun _ e => e)) TC.out)
  unfold Tried at HTC
  clear sC tC HTT
  go_wp2_with (refine wpList_load_row rfl 36 (.tmp 6) rfl b0 rfl 36 _ (0, 0) _ ZQc.out.1 Tryz.underlying36 rfl Tryz.size36 ?_)
  refine HTC.out.mono ?_
  rintro e w4 ⟨⟨o4, s4, t4⟩, v, rfl, ev, mv, rfl, hev, hmv⟩
  have S4 : Hid (Step (stateC K) w0 o w4 o4) := Lib.hid (SC.out.trans s4 (fun _ e => e))
  have T4 : Hid (StateAt w4 o4 K L x2 n') := Lib.hid t4
  have ZQ4 := Lib.hid (ZQc.out.step s4 (by unfold stateC; omega))
  have ZP4 := Lib.hid (ZPc.out.step s4 (by unfold stateC; omega))
  have HOE := Lib.hid (And.intro hev.one hmv.one)
  have HEV := Lib.hid hev
  have HMV := Lib.hid hmv
  clear s4 t4 c2 z2 hev hmv
  unfold RepS.cells at *
  dsimp only at HEV HMV ⊢
  have fN : Fr No w4 (w4.alloc (.cells #[.int .i64 0, .int .i64 0, .int .i64 0, .int .i64 0, .int .i64 0, .bool false, .slice none 0 0, .slice none 0 0] 29)) := (Fr.refl w4).alloc _
  have KN := Lib.hid (new_at w4 (.cells #[.int .i64 0, .int .i64 0, .int .i64 0, .int .i64 0, .int .i64 0, .bool false, .slice none 0 0, .slice none 0 0] 29))
  have TN := T4.out.no HOK'.out S4.out.fresh fN
  have ZN : Hid (Zero (w4.alloc (.cells #[.int .i64 0, .int .i64 0, .int .i64 0, .int .i64 0, .int .i64 0, .bool false, .slice none 0 0, .slice none 0 0] 29)) o4 w4.heap.size (.cells #[.int .i64 0, .int .i64 0, .int .i64 0, .int .i64 0, .int .i64 0, .bool false, .slice none 0 0, .slice none 0 0] 29 (0, 0))) := Lib.hid ⟨KN.out, S4.out.fresh _ (Nat.le_refl _)⟩
  have ZPN := Lib.hid (ZP4.out.no fN)
  have hnn : b0 + 1 ≠ w4.heap.size := by have := lt_of_block ZP4.out.1; omega
  obtain ⟨c1, c4, z4, KO, _, FX⟩ := told3 (y0 := .int .i64 x1.e) (y1 := .int .i64 x1.ino) (y2 := .int .i64 x1.size) (y3 := .int .i64 x1.handle) (y4 := .int .i64 x1.swaps) (y5 := .bool x1.dir) (y6 := ev) (y7 := mv) KN.out ZPN.out.1 hnn (show _ = some (.int .i64 x2.swaps) from TN.cell 1) (fun e => by have a := TN.own; rw [e, ZN.out.2] at a; omega)
  have FM : Hid (Fr No w4 (((w4.alloc (.cells #[.int .i64 0, .int .i64 0, .int .i64 0, .int .i64 0, .int .i64 0, .bool false, .slice none 0 0, .slice none 0 0] 29)).setRow w4.heap.size #[.int .i64 x1.e, .int .i64 x1.ino, .int .i64 x1.size, .int .i64 x1.handle, .int .i64 x1.swaps, .bool x1.dir, ev, mv]).setCell ⟨w4.heap.size, 4, none⟩ (.int .i64 x2.swaps))) := Lib.hid ((fN.of_no.trans FX.out (fun j hj e => by omega)).no (S := No) (fun _ _ e => e))
  have B6 := Lib.hid (lt_of_block KO.out)
  have HE := Lib.hid (gencode_ (withSw x1 x2.swaps) ev mv HRP.out _ ((HEV.out.no FM.out).le (Nat.le_of_lt B6.out)) ((HMV.out.no FM.out).le (Nat.le_of_lt B6.out)))
  unfold RepS.cells at HE
  dsimp only [withSw] at HE
  have HOB := Lib.hid (show (#[.int .i64 x1.e, .int .i64 x1.ino, .int .i64 x1.size, .int .i64 x1.handle, .int .i64 x1.swaps, .bool x1.dir, ev, mv] : Array Value).all (·.oneCell') = true from by
   have a : ∀ k x, (Value.int k x).oneCell' = true := fun _ _ => rfl
   have b : ∀ x, (Value.bool x).oneCell' = true := fun _ => rfl
   simp [a, b, HOE.out.1, HOE.out.2])
  have HOA := Lib.hid (show (#[.int .i64 x1.e, .int .i64 x1.ino, .int .i64 x1.size, .int .i64 x1.handle, .int .i64 x2.swaps, .bool x1.dir, ev, mv] : Array Value).all (·.oneCell') = true from by
   have a : ∀ k x, (Value.int k x).oneCell' = true := fun _ _ => rfl
   have b : ∀ x, (Value.bool x).oneCell' = true := fun _ => rfl
   simp [a, b, HOE.out.1, HOE.out.2])
  clear fN TN
  go_wp2_with (first | (refine wpList_store_row rfl 29 (.tmp 9) (.tmp 42) rfl w4.heap.size #[.int .i64 x1.e, .int .i64 x1.ino, .int .i64 x1.size, .int .i64 x1.handle, .int .i64 x1.swaps, .bool x1.dir, ev, mv] rfl rfl 29 _ KN.out Tryz.size29 rfl HOB.out ?_) | (refine wpList_load_row rfl 29 (.tmp 9) rfl w4.heap.size rfl 29 _ (0, 0) _ KO.out Tryz.underlying29 rfl Tryz.size29 ?_))
  refine HE.out.mono ?_
  rintro e w6 ⟨v, b, c, rfl, sl, hb6, f6⟩
  obtain rfl := sl.1
  have SL := Lib.hid sl
  have F46 := Lib.hid (FM.out.trans f6 (fun _ _ e => e))
  have K9 := Lib.hid (f6.block_of KO.out id)
  generalize w4.heap.size = t9 at *
  have fd : Fr No w6 w6.drew := (Fr.refl _).drew
  have F4D := Lib.hid (F46.out.trans fd (fun _ _ e => e))
  have TD := Lib.hid (T4.out.no HOK'.out S4.out.fresh F4D.out)
  have HFD : Hid (Fresh w6.drew o4) := Lib.hid (Step.no (C := fun _ => False) S4.out.fresh F4D.out).fresh
  have ZQD := Lib.hid (ZQ4.out.no F46.out)
  have ZPD := Lib.hid (ZP4.out.no F4D.out)
  have Z9D : Hid (Zero w6.drew o4 t9 (.cells #[.int .i64 x1.e, .int .i64 x1.ino, .int .i64 x1.size, .int .i64 x1.handle, .int .i64 x2.swaps, .bool x1.dir, ev, mv] 29 (0, 0))) := Lib.hid ⟨fd.block_of K9.out id, ZN.out.2⟩
  have HD := Lib.hid (gdone_ o4 (K + 1) L.win x2.W cn hcn4 r.l r.q (withSw x1 x2.swaps).bytes b 0 c _ w6.drew TD.out.win HFD.out ⟨rfl, SL.out.2.1, Nat.lt_of_lt_of_le SL.out.2.2.1 fd.size, fun j y hj => fd.cell_of (SL.out.2.2.2 j y hj) id⟩ HBY.out (fun i life seq bs hb => HWL.out i life seq bs (by rw [← HWE.out]; exact hb)) (by rw [HWE.out, HAK.out]; decide) (by rw [HWE.out, HAK.out]; decide))
  unfold GDone at HD
  dsimp only [withSw] at HD
  have NB : Hid (¬ (o4 b0 = K + 1)) := Lib.hid (by rw [ZQD.out.2]; omega)
  have NS : Hid (¬ (o4 L.s = K + 1)) := Lib.hid (by rw [TD.out.own]; omega)
  have c8 : w6.cell? ⟨L.s, 8, none⟩ = some (.pointer (some ⟨L.win, 0, none⟩)) := F46.out.cell_of (T4.out.cell 8) id
  have q0 : w6.cell? ⟨b0, 0, none⟩ = some (.int .i64 cn) := by rw [cell_at ZQD.out.1]; rfl
  have q1 : w6.cell? ⟨b0, 1, none⟩ = some (.int .i64 r.l) := by rw [cell_at ZQD.out.1]; rfl
  have q2 : w6.cell? ⟨b0, 2, none⟩ = some (.int .i64 r.q) := by rw [cell_at ZQD.out.1]; rfl
  clear f6 sl hb6 fd c1 c4 z4 HE
  go_wp2_with fail
  go_region_held3 (fun w' => w'.cell? ⟨b0, 0, none⟩ = some (.int .i64 cn) ∧ w'.cell? ⟨b0, 1, none⟩ = some (.int .i64 r.l) ∧ w'.cell? ⟨b0, 2, none⟩ = some (.int .i64 r.q) ∧ w'.cell? ⟨L.s, 8, none⟩ = some (.pointer (some ⟨L.win, 0, none⟩))) (first | go_keep | (go_split_ands; refine ⟨?_, ?_, ?_, ?_⟩ <;> exact s7.fr.cell_of (by assumption) (by first | exact NB.out | exact NS.out)))
   ((go_at_call 113; refine HD.out.mono ?_; rintro e w7 ⟨rfl, o7, s7, t7⟩))
  have T7 := Lib.hid (TD.out.newWin HOK'.out s7 t7)
  have S7 : Hid (Step (stateC K) w0 o w7 o7) := Lib.hid ((S4.out.trans ((Step.no (C := fun _ => False) S4.out.fresh F4D.out).mono (fun _ e => e.elim)) (fun _ e => e)).trans (s7.mono (fun c e => by unfold stateC; omega)) (fun _ e => e))
  have Z97 := Lib.hid (Z9D.out.step s7 (by omega))
  have ZP7 := Lib.hid (ZPD.out.step s7 (by omega))
  clear s7 t7
  go_wp2_with (first | (refine wpList_load_row rfl 29 (.tmp 9) rfl t9 rfl 29 _ (0, 0) _ Z97.out.1 Tryz.underlying29 rfl Tryz.size29 ?_) | (refine wpList_store_row rfl 29 (.tmp 8) (.tmp 61) rfl (b0 + 1) #[.int .i64 x1.e, .int .i64 x1.ino, .int .i64 x1.size, .int .i64 x1.handle, .int .i64 x2.swaps, .bool x1.dir, ev, mv] rfl rfl 29 _ ZP7.out.1 Tryz.size29 rfl HOA.out ?_))
  have KF := setRow_at (cs' := #[.int .i64 x1.e, .int .i64 x1.ino, .int .i64 x1.size, .int .i64 x1.handle, .int .i64 x2.swaps, .bool x1.dir, ev, mv]) ZP7.out.1
  exact bodyPost_ret (v := .agg #[.int .i64 x1.e, .int .i64 x1.ino, .int .i64 x1.size, .int .i64 x1.handle, .int .i64 x2.swaps, .bool x1.dir, ev, mv]) (results_cell_row rfl _ _ (b0 + 1) 29 _ (0, 0) _ rfl KF Tryz.underlying29 rfl Tryz.size29) rfl
   (HQ.out _ w0 w7 _ o7 ev mv rfl HOE.out.1 HOE.out.2 F0.out B1.out S7.out T7.out (Fr.setRow (S := fun j => j = b0 + 1) (Fr.refl _) (.inl rfl) _))
 ·go_enter Tryz.func55, Tryz.ntmps55
  go_upto_region 1 with fail
  generalize (w.alloc (.cells #[.int .i64 cn, .int .i64 r.l, .int .i64 r.q, .int .i64 r.kind, .string (ba r.path), .string (ba r.to), .bool r.dir, .bool r.wr, .bool r.cl, .int .i64 r.h, .int .i64 r.nx, .int .i64 r.sw, rv, dv] 36)).alloc (.cells #[.int .i64 0, .int .i64 0, .int .i64 0, .int .i64 0, .int .i64 0, .bool false, .slice none 0 0, .slice none 0 0] 29) = w0 at *
  have B1 := Lib.hid (lt_of_block k1)
  generalize hb0 : w.heap.size = b0 at *
  have ZQ : Hid (Zero w0 o b0 (.cells #[.int .i64 cn, .int .i64 r.l, .int .i64 r.q, .int .i64 r.kind, .string (ba r.path), .string (ba r.to), .bool r.dir, .bool r.wr, .bool r.cl, .int .i64 r.h, .int .i64 r.nx, .int .i64 r.sw, rv, dv] 36 (0, 0))) := Lib.hid ⟨k0, HO0.out.1⟩
  have ZP : Hid (Zero w0 o (b0 + 1) (.cells #[.int .i64 0, .int .i64 0, .int .i64 0, .int .i64 0, .int .i64 0, .bool false, .slice none 0 0, .slice none 0 0] 29 (0, 0))) := Lib.hid ⟨k1, HO0.out.2⟩
  clear k0 k1
  have w1 : IntKind.i64.wrap (S.clock + 1) = S.clock + 1 := by rw [IntKind.wrap_i64]; omega
  have c10 : w0.cell? ⟨L.s, 10, none⟩ = some (.pointer (some ⟨L.tk, 0, none⟩)) := HH.out.cell 10
  have d0 : w0.cell? ⟨b0, 0, none⟩ = some (.int .i64 cn) := by rw [cell_at ZQ.out.1]; rfl
  have fz : Fr No w0 w0.drew := (Fr.refl _).drew
  have HDR := Lib.hid (drop_ o K L.tk S.K cn w0.drew (HH.out.no HOK.out HG0.out fz).tok (Step.no (C := fun _ => False) HG0.out fz).fresh)
  unfold DropPost GTok at HDR
  have NT0 : Hid (¬ tokC2 K (o b0)) := Lib.hid (by rw [ZQ.out.2]; unfold tokC2; omega)
  have NTS : Hid (¬ tokC2 K (o L.s)) := Lib.hid (by rw [HH.out.own]; unfold tokC2; omega)
  clear fz
  go_upto_region 4 with fail
  go_region_held3 (fun w' => w'.cell? ⟨L.s, 10, none⟩ = some (.pointer (some ⟨L.tk, 0, none⟩)) ∧ w'.cell? ⟨b0, 0, none⟩ = some (.int .i64 cn)) (first | go_keep | (go_split_ands; refine ⟨?_, ?_⟩ <;> exact s1.fr.cell_of (by assumption) (by first | exact NTS.out | exact NT0.out)))
   ((go_at_call 111; refine HDR.out.mono ?_; rintro e wd ⟨⟨nd, rfl⟩, od, s1, t1⟩))
  have fz : Fr No w0 w0.drew := (Fr.refl _).drew
  have TD : Hid (StateAt wd od K L { S with K := S.K.filter (fun y => !(y.c == (cn : Int))) } n) := Lib.hid ((HH.out.no HOK.out HG0.out fz).newToks HOK.out s1 t1)
  have SD : Hid (Step (stateC K) w0 o wd od) := Lib.hid ((((Step.no (C := fun _ => False) HG0.out fz).mono (fun _ e => e.elim)).trans (s1.mono (fun _ e => tokC2_state e)) (fun _ e => e)))
  have ZQd := Lib.hid ((ZQ.out.no fz).step s1 (by unfold tokC2; omega))
  have ZPd := Lib.hid ((ZP.out.no fz).step s1 (by unfold tokC2; omega))
  have OKD : Hid (StOk { S with K := S.K.filter (fun y => !(y.c == (cn : Int))) }) := Lib.hid ⟨HOK.out.tree, HOK.out.file⟩
  clear s1 t1 fz c10 d0
  have fz : Fr No wd wd.drew := (Fr.refl _).drew
  have tdd := TD.out.no OKD.out SD.out.fresh fz
  have hfd : Fresh wd.drew od := (Step.no (C := fun _ => False) SD.out.fresh fz).fresh
  obtain ⟨sN, tN⟩ := tdd.set (S' := { S with K := S.K.filter (fun y => !(y.c == (cn : Int))), next := updN S.next cn 0 }) OKD.out hfd (3 + cn) (.int .i64 0) (stC_next L { S with K := S.K.filter (fun y => !(y.c == (cn : Int))) } cn (by omega) 0) rfl rfl rfl rfl rfl
  have EN : Hid (∃ u, wd.drew.cell? ⟨L.s, 3 + cn, none⟩ = some u) := Lib.hid ⟨_, next_cell tdd cn (by omega)⟩
  have EF : Hid (wd.drew.frozen? ⟨L.s, 3 + cn, none⟩ = false) := Lib.hid (frozen_at tdd.cs _)
  have D0 : Hid (wd.drew.cell? ⟨b0, 0, none⟩ = some (.int .i64 cn)) := Lib.hid (by rw [cell_at (ZQd.out.no fz).1]; rfl)
  have TT := Lib.hid tN
  have FT := Lib.hid sN.fresh
  have ST : Hid (Step (stateC K) w0 o (wd.drew.setCell ⟨L.s, 3 + cn, none⟩ (.int .i64 0)) od) := Lib.hid (SD.out.trans (((Step.no (C := fun _ => False) SD.out.fresh fz).mono (fun _ e => e.elim)).trans (sN.mono (fun c e => by unfold stateC; omega)) (fun _ e => e)) (fun _ e => e))
  have ZQt := Lib.hid ((ZQd.out.no fz).step sN (by omega))
  have ZPt := Lib.hid ((ZPd.out.no fz).step sN (by omega))
  have OKT : Hid (StOk { S with K := S.K.filter (fun y => !(y.c == (cn : Int))), next := updN S.next cn 0 }) := Lib.hid ⟨HOK.out.tree, HOK.out.file⟩
  clear tdd hfd sN tN fz
  go_wp2_with fail
  refine wp_region_text mixed (fun W => W = wd.drew) [7] (by kernel_rfl) (by kernel_rfl) (by kernel_rfl) (by kernel_rfl) (fun _ _ d _ _ h => by cases d <;> exact h) rfl ?_
  repeat (first
   | refine seqX_skip (by rfl) ?_
   | (refine seqX_val (v := ?_) (by rfl) (by rfl) ?_ ?_
      rotate_left 1
      (intro W; go_simp; (try with_reducible rfl))
      simp only [Act.put, lsA, lsZ, lsS])
   | (refine seqX_no (by rfl) (by rfl) ?_
      simp only [Act.put, lsA, lsZ, lsS])
   | (refine seqX_valS (v := ?_) (by rfl) (by kernel_rfl) (by rfl) ?_ ?_
      rotate_left 1
      (intro W hS; have e0 : W.cell? ⟨b0, 0, none⟩ = some (.int .i64 cn) := (by rw [hS]; exact D0.out); clear hS; go_simp; (try with_reducible rfl))
      simp only [Act.put, lsA, lsZ, lsS]))
  intro W hS
  obtain rfl : W = wd.drew := hS
  simp only [List.reverse_cons, List.reverse_nil, List.nil_append, List.cons_append]
  obtain ⟨u, hu⟩ := EN.out
  have hfz := EF.out
  obtain ⟨sC, tC⟩ := TT.out.set (S' := askB S cn 3) OKT.out FT.out 2 (.int .i64 (S.clock + 1)) (by simp [stC, askB]) rfl rfl rfl rfl rfl
  go_upto_region 6 with fail
  have hEq : wd.drew.setCell ⟨L.s, 3 + cn, none⟩ (.int .i64 0) = (wd.setCell ⟨L.s, 3 + cn, none⟩ (.int .i64 0)).drew := rfl
  rw [hEq] at TT ST FT ZQt ZPt sC tC
  generalize hwt : (wd.setCell ⟨L.s, 3 + cn, none⟩ (.int .i64 0)).drew = wt at *
  obtain ⟨ot, rfl⟩ : ∃ ot : Nat → Nat, ot = od := ⟨_, rfl⟩
  have c2 : wt.cell? ⟨L.s, 2, none⟩ = some (.int .i64 S.clock) := TT.out.cell 2
  have z2 : wt.frozen? ⟨L.s, 2, none⟩ = false := frozen_at TT.out.cs 2
  have SC : Hid (Step (stateC K) w0 o (wt.setCell ⟨L.s, 2, none⟩ (.int .i64 (S.clock + 1))) ot) := Lib.hid (ST.out.trans (sC.mono (fun c e => by unfold stateC; omega)) (fun _ e => e))
  have TC := Lib.hid tC
  have ZQc := Lib.hid (ZQt.out.step sC (by omega))
  have ZPc := Lib.hid (ZPt.out.step sC (by omega))
  have HTC := Lib.hid (HTT.out _ ot (F00.out.trans SC.out (fun _ e => e)) TC.out)
  unfold Tried at HTC
  clear sC tC HTT
  go_wp2_with (refine wpList_load_row rfl 36 (.tmp 6) rfl b0 rfl 36 _ (0, 0) _ ZQc.out.1 Tryz.underlying36 rfl Tryz.size36 ?_)
  refine HTC.out.mono ?_
  rintro e w4 ⟨⟨o4, s4, t4⟩, v, rfl, ev, mv, rfl, hev, hmv⟩
  have S4 : Hid (Step (stateC K) w0 o w4 o4) := Lib.hid (SC.out.trans s4 (fun _ e => e))
  have T4 : Hid (StateAt w4 o4 K L x2 n') := Lib.hid t4
  have ZQ4 := Lib.hid (ZQc.out.step s4 (by unfold stateC; omega))
  have ZP4 := Lib.hid (ZPc.out.step s4 (by unfold stateC; omega))
  have HOE := Lib.hid (And.intro hev.one hmv.one)
  have HEV := Lib.hid hev
  have HMV := Lib.hid hmv
  clear s4 t4 c2 z2 hev hmv
  unfold RepS.cells at *
  dsimp only at HEV HMV ⊢
  have fN : Fr No w4 (w4.alloc (.cells #[.int .i64 0, .int .i64 0, .int .i64 0, .int .i64 0, .int .i64 0, .bool false, .slice none 0 0, .slice none 0 0] 29)) := (Fr.refl w4).alloc _
  have KN := Lib.hid (new_at w4 (.cells #[.int .i64 0, .int .i64 0, .int .i64 0, .int .i64 0, .int .i64 0, .bool false, .slice none 0 0, .slice none 0 0] 29))
  have TN := T4.out.no HOK'.out S4.out.fresh fN
  have ZN : Hid (Zero (w4.alloc (.cells #[.int .i64 0, .int .i64 0, .int .i64 0, .int .i64 0, .int .i64 0, .bool false, .slice none 0 0, .slice none 0 0] 29)) o4 w4.heap.size (.cells #[.int .i64 0, .int .i64 0, .int .i64 0, .int .i64 0, .int .i64 0, .bool false, .slice none 0 0, .slice none 0 0] 29 (0, 0))) := Lib.hid ⟨KN.out, S4.out.fresh _ (Nat.le_refl _)⟩
  have ZPN := Lib.hid (ZP4.out.no fN)
  have hnn : b0 + 1 ≠ w4.heap.size := by have := lt_of_block ZP4.out.1; omega
  obtain ⟨c1, c4, z4, KO, _, FX⟩ := told3 (y0 := .int .i64 x1.e) (y1 := .int .i64 x1.ino) (y2 := .int .i64 x1.size) (y3 := .int .i64 x1.handle) (y4 := .int .i64 x1.swaps) (y5 := .bool x1.dir) (y6 := ev) (y7 := mv) KN.out ZPN.out.1 hnn (show _ = some (.int .i64 x2.swaps) from TN.cell 1) (fun e => by have a := TN.own; rw [e, ZN.out.2] at a; omega)
  have FM : Hid (Fr No w4 (((w4.alloc (.cells #[.int .i64 0, .int .i64 0, .int .i64 0, .int .i64 0, .int .i64 0, .bool false, .slice none 0 0, .slice none 0 0] 29)).setRow w4.heap.size #[.int .i64 x1.e, .int .i64 x1.ino, .int .i64 x1.size, .int .i64 x1.handle, .int .i64 x1.swaps, .bool x1.dir, ev, mv]).setCell ⟨w4.heap.size, 4, none⟩ (.int .i64 x2.swaps))) := Lib.hid ((fN.of_no.trans FX.out (fun j hj e => by omega)).no (S := No) (fun _ _ e => e))
  have B6 := Lib.hid (lt_of_block KO.out)
  have HE := Lib.hid (gencode_ (withSw x1 x2.swaps) ev mv HRP.out _ ((HEV.out.no FM.out).le (Nat.le_of_lt B6.out)) ((HMV.out.no FM.out).le (Nat.le_of_lt B6.out)))
  unfold RepS.cells at HE
  dsimp only [withSw] at HE
  have HOB := Lib.hid (show (#[.int .i64 x1.e, .int .i64 x1.ino, .int .i64 x1.size, .int .i64 x1.handle, .int .i64 x1.swaps, .bool x1.dir, ev, mv] : Array Value).all (·.oneCell') = true from by
   have a : ∀ k x, (Value.int k x).oneCell' = true := fun _ _ => rfl
   have b : ∀ x, (Value.bool x).oneCell' = true := fun _ => rfl
   simp [a, b, HOE.out.1, HOE.out.2])
  have HOA := Lib.hid (show (#[.int .i64 x1.e, .int .i64 x1.ino, .int .i64 x1.size, .int .i64 x1.handle, .int .i64 x2.swaps, .bool x1.dir, ev, mv] : Array Value).all (·.oneCell') = true from by
   have a : ∀ k x, (Value.int k x).oneCell' = true := fun _ _ => rfl
   have b : ∀ x, (Value.bool x).oneCell' = true := fun _ => rfl
   simp [a, b, HOE.out.1, HOE.out.2])
  clear fN TN
  go_wp2_with (first | (refine wpList_store_row rfl 29 (.tmp 9) (.tmp 42) rfl w4.heap.size #[.int .i64 x1.e, .int .i64 x1.ino, .int .i64 x1.size, .int .i64 x1.handle, .int .i64 x1.swaps, .bool x1.dir, ev, mv] rfl rfl 29 _ KN.out Tryz.size29 rfl HOB.out ?_) | (refine wpList_load_row rfl 29 (.tmp 9) rfl w4.heap.size rfl 29 _ (0, 0) _ KO.out Tryz.underlying29 rfl Tryz.size29 ?_))
  refine HE.out.mono ?_
  rintro e w6 ⟨v, b, c, rfl, sl, hb6, f6⟩
  obtain rfl := sl.1
  have SL := Lib.hid sl
  have F46 := Lib.hid (FM.out.trans f6 (fun _ _ e => e))
  have K9 := Lib.hid (f6.block_of KO.out id)
  generalize w4.heap.size = t9 at *
  have fd : Fr No w6 w6.drew := (Fr.refl _).drew
  have F4D := Lib.hid (F46.out.trans fd (fun _ _ e => e))
  have TD := Lib.hid (T4.out.no HOK'.out S4.out.fresh F4D.out)
  have HFD : Hid (Fresh w6.drew o4) := Lib.hid (Step.no (C := fun _ => False) S4.out.fresh F4D.out).fresh
  have ZQD := Lib.hid (ZQ4.out.no F46.out)
  have ZPD := Lib.hid (ZP4.out.no F4D.out)
  have Z9D : Hid (Zero w6.drew o4 t9 (.cells #[.int .i64 x1.e, .int .i64 x1.ino, .int .i64 x1.size, .int .i64 x1.handle, .int .i64 x2.swaps, .bool x1.dir, ev, mv] 29 (0, 0))) := Lib.hid ⟨fd.block_of K9.out id, ZN.out.2⟩
  have HD := Lib.hid (gdone_ o4 (K + 1) L.win x2.W cn hcn4 r.l r.q (withSw x1 x2.swaps).bytes b 0 c _ w6.drew TD.out.win HFD.out ⟨rfl, SL.out.2.1, Nat.lt_of_lt_of_le SL.out.2.2.1 fd.size, fun j y hj => fd.cell_of (SL.out.2.2.2 j y hj) id⟩ HBY.out (fun i life seq bs hb => HWL.out i life seq bs (by rw [← HWE.out]; exact hb)) (by rw [HWE.out, HAK.out]; decide) (by rw [HWE.out, HAK.out]; decide))
  unfold GDone at HD
  dsimp only [withSw] at HD
  have NB : Hid (¬ (o4 b0 = K + 1)) := Lib.hid (by rw [ZQD.out.2]; omega)
  have NS : Hid (¬ (o4 L.s = K + 1)) := Lib.hid (by rw [TD.out.own]; omega)
  have c8 : w6.cell? ⟨L.s, 8, none⟩ = some (.pointer (some ⟨L.win, 0, none⟩)) := F46.out.cell_of (T4.out.cell 8) id
  have q0 : w6.cell? ⟨b0, 0, none⟩ = some (.int .i64 cn) := by rw [cell_at ZQD.out.1]; rfl
  have q1 : w6.cell? ⟨b0, 1, none⟩ = some (.int .i64 r.l) := by rw [cell_at ZQD.out.1]; rfl
  have q2 : w6.cell? ⟨b0, 2, none⟩ = some (.int .i64 r.q) := by rw [cell_at ZQD.out.1]; rfl
  clear f6 sl hb6 fd c1 c4 z4 HE
  go_wp2_with fail
  go_region_held3 (fun w' => w'.cell? ⟨b0, 0, none⟩ = some (.int .i64 cn) ∧ w'.cell? ⟨b0, 1, none⟩ = some (.int .i64 r.l) ∧ w'.cell? ⟨b0, 2, none⟩ = some (.int .i64 r.q) ∧ w'.cell? ⟨L.s, 8, none⟩ = some (.pointer (some ⟨L.win, 0, none⟩))) (first | go_keep | (go_split_ands; refine ⟨?_, ?_, ?_, ?_⟩ <;> exact s7.fr.cell_of (by assumption) (by first | exact NB.out | exact NS.out)))
   ((go_at_call 113; refine HD.out.mono ?_; rintro e w7 ⟨rfl, o7, s7, t7⟩))
  have T7 := Lib.hid (TD.out.newWin HOK'.out s7 t7)
  have S7 : Hid (Step (stateC K) w0 o w7 o7) := Lib.hid ((S4.out.trans ((Step.no (C := fun _ => False) S4.out.fresh F4D.out).mono (fun _ e => e.elim)) (fun _ e => e)).trans (s7.mono (fun c e => by unfold stateC; omega)) (fun _ e => e))
  have Z97 := Lib.hid (Z9D.out.step s7 (by omega))
  have ZP7 := Lib.hid (ZPD.out.step s7 (by omega))
  clear s7 t7
  go_wp2_with (first | (refine wpList_load_row rfl 29 (.tmp 9) rfl t9 rfl 29 _ (0, 0) _ Z97.out.1 Tryz.underlying29 rfl Tryz.size29 ?_) | (refine wpList_store_row rfl 29 (.tmp 8) (.tmp 61) rfl (b0 + 1) #[.int .i64 x1.e, .int .i64 x1.ino, .int .i64 x1.size, .int .i64 x1.handle, .int .i64 x2.swaps, .bool x1.dir, ev, mv] rfl rfl 29 _ ZP7.out.1 Tryz.size29 rfl HOA.out ?_))
  have KF := setRow_at (cs' := #[.int .i64 x1.e, .int .i64 x1.ino, .int .i64 x1.size, .int .i64 x1.handle, .int .i64 x2.swaps, .bool x1.dir, ev, mv]) ZP7.out.1
  exact bodyPost_ret (v := .agg #[.int .i64 x1.e, .int .i64 x1.ino, .int .i64 x1.size, .int .i64 x1.handle, .int .i64 x2.swaps, .bool x1.dir, ev, mv]) (results_cell_row rfl _ _ (b0 + 1) 29 _ (0, 0) _ rfl KF Tryz.underlying29 rfl Tryz.size29) rfl
   (HQ.out _ w0 w7 _ o7 ev mv rfl HOE.out.1 HOE.out.2 F0.out B1.out S7.out T7.out (Fr.setRow (S := fun j => j = b0 + 1) (Fr.refl _) (.inl rfl) _))
end Go.Proofs.YtlcojhddnpmgmaaGreat
