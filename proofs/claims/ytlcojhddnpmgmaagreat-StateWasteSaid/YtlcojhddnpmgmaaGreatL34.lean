/- Parts: Apply, whatever is asked: all its ways joined. Plain law: a stripe that is waste never comes again. No program is walked here. A new state. Walked. The first sentence of every statement, by the general contracts. Walked. (Printed by wip/tools/jsgen.py.) StateWaste: a stripe that is waste never comes again. Walked. (Printed by wip/tools/jpgen.py.) -/
import Derived.Test.YtlcojhddnpmgmaaGreatL16
import Derived.Test.YtlcojhddnpmgmaaGreatL24
import Derived.Test.YtlcojhddnpmgmaaGreatL29
import Derived.Test.YtlcojhddnpmgmaaGreatL30
import Derived.Test.YtlcojhddnpmgmaaGreatL31
import Derived.Test.YtlcojhddnpmgmaaGreatL32
import Derived.Test.YtlcojhddnpmgmaaGreatL33
set_option linter.unusedSimpArgs false
set_option linter.unusedVariables false
set_option maxRecDepth 100000
namespace Go.Proofs.YtlcojhddnpmgmaaGreat
open Go.RowKit
theorem Deed.more {w w' : World} {o : Nat → Nat} {K n n' : Nat} {L : Plc} {x : Int × RepS × St} {e : Ending} (h : Deed w o K L n x e w') (hn : n ≤ n') : Deed w o K L n' x e w' := by
  obtain ⟨⟨o', s, t⟩, he⟩ := h
  exact ⟨⟨o', s, t.more hn⟩, he⟩
def deedF (r : Req) (st : List Sz) (dl : List Dl) (k : Int) (S : St) : Int × RepS × St :=
  if k = 1 then makeD S r else if k = 2 then removeD S r else if k = 3 then moveD S r else if k = 4 then lookD S r else if k = 5 then listD S r else if k = 6 then openD S r else if k = 7 then commitD S r st dl else mapD S r
structure Small (r : Req) (st : List Sz) (dl : List Dl) : Prop where
  path : r.path.length ≤ 300
  dest : r.to.length ≤ 300
  few : st.length ≤ 60
  some_ : dl.length ≤ 100
  good : ∀ x ∈ st, stpGood x.1
theorem fine_all {S : St} {q : Nat} (h : StInv S q) (r : Req) (st : List Sz) (dl : List Dl) (k : Int) (hc : 0 ≤ r.c ∧ r.c < 4) : Fine (q + 1) (deedF r st dl k S) := by
  have h' := h.more (Nat.le_succ q)
  unfold deedF
  split
  · exact fine_make h' r
  · split
    · exact fine_remove h' r
    · split
      · exact fine_move h' r
      · split
        · exact fine_look h' r
        · split
          · exact fine_list h' r
          · split
            · exact fine_open h r hc
            · split
              · exact fine_commit h' r st dl
              · exact fine_map h' r
theorem win_all (S : St) (r : Req) (st : List Sz) (dl : List Dl) (k : Int) : (deedF r st dl k S).2.2.W = S.W := by
  unfold deedF
  split
  · unfold makeD makeS; split <;> rfl
  · split
    · unfold removeD removeS
      split
      · rfl
      · split
        · rfl
        · split
          · rfl
          · dsimp only
            split <;> rfl
    · split
      · unfold moveD; split <;> rfl
      · split
        · unfold lookD; split <;> rfl
        · split
          · unfold listD; split <;> rfl
          · split
            · unfold openD
              split
              · rfl
              · split
                · rfl
                · split <;> rfl
            · split
              · unfold commitD
                split
                · rfl
                · split
                  · rfl
                  · split
                    · rfl
                    · split
                      · rfl
                      · rfl
              · unfold mapD
                split <;> rfl
theorem deed_all (o : Nat → Nat) (K n q : Nat) (L : Plc) (S : St) (r : Req) (rv dv : Value) (st : List Sz) (dl : List Dl) (k : Int) (w : World) (hk : 1 ≤ k ∧ k ≤ 8) (h : StateAt w o K L S n) (inv : StInv S q) (hf : Fresh w o) (hr : RowsAt szC 4 w o rv st) (hd : RowsAt dlC 14 w o dv dl) (sm : Small r st dl) (hc : 0 ≤ r.c ∧ r.c < 4) (hq : q ≤ 100000) (hn : n ≤ 500000) :
    Calls Tryz.prog (81 + k.toNat) #[.pointer (some ⟨L.s, 0, none⟩), .agg (r.cells rv dv)] w (Deed w o K L (n + 100) (deedF r st dl k S)) := by
  have p1 := sm.path
  have p2 := sm.dest
  have p3 := sm.few
  have p4 := sm.some_
  have fit := inv.fits (by omega)
  have hk' : k = 1 ∨ k = 2 ∨ k = 3 ∨ k = 4 ∨ k = 5 ∨ k = 6 ∨ k = 7 ∨ k = 8 := by omega
  rcases hk' with rfl | rfl | rfl | rfl | rfl | rfl | rfl | rfl
  · exact (dmake_ o K n L S r rv dv w h inv.ok hf (by omega) (by omega)).mono (fun e w' x => x.more (by omega))
  · exact (dremove_ o K n L S r rv dv w h inv.ok inv.pts hf (by omega) (by omega)).mono (fun e w' x => x.more (by omega))
  · exact (dmove_ o K n L S r rv dv w h inv.ok hf (by omega) (by omega)).mono (fun e w' x => x.more (by omega))
  · exact (dlook_ o K n L S r rv dv w h inv.ok hf (by omega)).mono (fun e w' x => x.more (by omega))
  · exact (dlist_ o K n L S r rv dv w h inv.ok hf (by omega)).mono (fun e w' x => x.more (by omega))
  · exact (dopen_ o K n L S r rv dv w h inv.ok fit hf (by omega) hc).mono (fun e w' x => x.more (by omega))
  · exact (dcommit_ o K n L S r rv dv st dl w h inv.ok fit inv.pts hf hr hd sm.good hc (by omega) (by omega) (by omega)).mono (fun e w' x => x.more (by omega))
  · exact (dmap_ o K n L S r rv dv w h inv.ok fit hf).mono (fun e w' x => x.more (by omega))
theorem tried_all (o : Nat → Nat) (K n q : Nat) (L : Plc) (S : St) (r : Req) (rv dv : Value) (st : List Sz) (dl : List Dl) (k : Int) (w : World) (hk : 1 ≤ k ∧ k ≤ 8) (h : StateAt w o K L S n) (inv : StInv S q) (hf : Fresh w o) (hr : RowsAt szC 4 w o rv st) (hd : RowsAt dlC 14 w o dv dl) (sm : Small r st dl) (hc : 0 ≤ r.c ∧ r.c < 4) (hq : q ≤ 100000) (hn : n ≤ 500000) :
    Calls Tryz.prog 49 #[.pointer (some ⟨L.s, 0, none⟩), deedV k, .agg (r.cells rv dv)] w (Tried w o K L (n + 100) (triedOf (deedF r st dl k S))) := by
  obtain ⟨f0, _, _, H0, G0⟩ := begun h inv.ok hf r rv dv
  have hD := deed_all o K n q L S r rv dv st dl k _ hk H0 inv G0 (hr.no hf f0) (hd.no hf f0) sm hc hq hn
  have ok' := (fine_all inv r st dl k hc).inv.ok
  have hv : deedV k = .func (Fn.func (81 + k.toNat)) #[] #[] := if_pos hk
  rw [hv]
  generalize deedF r st dl k S = x at *
  have hk' : k = 1 ∨ k = 2 ∨ k = 3 ∨ k = 4 ∨ k = 5 ∨ k = 6 ∨ k = 7 ∨ k = 8 := by omega
  rcases hk' with rfl | rfl | rfl | rfl | rfl | rfl | rfl | rfl
  · exact gtried_ 82 (by simp) o K _ L x r rv dv w hf ok' hD
  · exact gtried_ 83 (by simp) o K _ L x r rv dv w hf ok' hD
  · exact gtried_ 84 (by simp) o K _ L x r rv dv w hf ok' hD
  · exact gtried_ 85 (by simp) o K _ L x r rv dv w hf ok' hD
  · exact gtried_ 86 (by simp) o K _ L x r rv dv w hf ok' hD
  · exact gtried_ 87 (by simp) o K _ L x r rv dv w hf ok' hD
  · exact gtried_ 88 (by simp) o K _ L x r rv dv w hf ok' hD
  · exact gtried_ 89 (by simp) o K _ L x r rv dv w hf ok' hD
def tell (x : RepS × St) : RepS × St := (withSw x.1 x.2.swaps, x.2)
def Did (S : St) (r : Req) (st : List Sz) (dl : List Dl) (x : RepS × St) : Prop :=
  if r.kind = 10 then x = tell (triedOf (bootD S r)) else if r.kind = 11 then x = tell (triedOf (swapD S r)) else if r.kind = 9 then x = tell (triedOf (movedD S r st dl))
  else if ¬ (1 ≤ r.kind ∧ r.kind ≤ 8) then x = tell (plainRep 1 0 0 0 0 false, S)
  else if (askOf S.W r.c r.l r.q).1 = 1 then x.2 = S ∧ (askOf S.W r.c r.l r.q).2 = some x.1.bytes ∧ x.1.ok
  else if (askOf S.W r.c r.l r.q).1 = 2 then x = tell (plainRep 17 0 0 0 0 false, S)
  else x = tell (askedS (triedOf (deedF r st dl r.kind (askB S r.c.toNat (askOf S.W r.c r.l r.q).1))) r.c.toNat r)
theorem ask_cases (W : Nat → Option WRow) (c l s : Int) : (askOf W c l s = (2, none)) ∨ (0 ≤ c ∧ c < 4) ∧ (askOf W c l s = (3, none) ∨ askOf W c l s = (2, none) ∨ askOf W c l s = (0, none) ∨ ∃ y, W c.toNat = some y ∧ askOf W c l s = (1, some y.2.2)) := by
  unfold askOf
  split
  · rename_i h
    refine .inr ⟨⟨h.1, h.2.1⟩, ?_⟩
    cases hW : W c.toNat with
    | none => exact .inl rfl
    | some y =>
      obtain ⟨life, seq, bs⟩ := y
      dsimp only
      unfold kindOf
      split
      · exact .inr (.inl (by simp))
      · split
        · exact .inl (by simp)
        · split
          · exact .inr (.inr (.inr ⟨(life, seq, bs), rfl, by simp⟩))
          · exact .inr (.inr (.inl (by simp)))
  · exact .inl rfl
theorem StInv.askB {S : St} {q : Nat} (h : StInv S q) (c : Nat) (kind : Int) : StInv (askB S c kind) (q + 1) := by
  have h' := h.more (Nat.le_succ q)
  have hcl := h.clock
  unfold Go.Proofs.YtlcojhddnpmgmaaGreat.askB
  split
  · refine ⟨⟨h.ok.tree, h.ok.file⟩, h.pts, h.dir, fun x hx => h.tok x (List.mem_filter.1 hx).1, fun x hx => h.small x (List.mem_filter.1 hx).1, Nat.le_trans (List.length_filter_le _ _) h'.few, h'.boots, h'.swaps, ?_, h.win⟩
    dsimp only
    omega
  · refine ⟨⟨h.ok.tree, h.ok.file⟩, h.pts, h.dir, h.tok, h.small, h'.few, h'.boots, h'.swaps, ?_, h.win⟩
    dsimp only
    omega
theorem tried_rep {x : Int × RepS × St} {q : Nat} (h : Fine q x) {s : Int} (hs : 0 ≤ s ∧ s < 16777216) : (withSw (triedOf x).1 s).ok ∧ 0 ≤ (withSw (triedOf x).1 s).e ∧ (withSw (triedOf x).1 s).e ≤ 18 := by
  unfold triedOf
  split
  · rename_i h0
    obtain ⟨h1, h2⟩ := h.rep h0
    exact ⟨h2 s hs, by unfold withSw; dsimp only; omega, by unfold withSw; dsimp only; omega⟩
  · have hc := h.code
    exact ⟨plain_ok (e := x.1) (i := 0) (z := 0) (h := 0) (by omega) (by omega) (by omega) (by omega) hs, by unfold withSw plainRep; dsimp only; omega, by unfold withSw plainRep; dsimp only; omega⟩
theorem asked_inv {x : Int × RepS × St} {q : Nat} (h : Fine q x) (hq : q ≤ 1000000) (c : Nat) (r : Req) : StInv (askedS (triedOf x) c r).2 q := by
  have hi := h.inv
  rw [← triedOf_st] at hi
  have hs := hi.swaps
  obtain ⟨h1, h2, h3⟩ := tried_rep h (s := (triedOf x).2.swaps) (by omega)
  unfold askedS
  refine ⟨⟨hi.ok.tree, hi.ok.file⟩, hi.pts, hi.dir, hi.tok, hi.small, hi.few, hi.boots, hi.swaps, hi.clock, fun i y hy => ?_⟩
  dsimp only at hy
  unfold upd at hy
  split at hy
  · cases hy
    exact ⟨_, h1, h2, h3, rfl⟩
  · exact hi.win i y hy
theorem StInv.winlen {S : St} {q : Nat} (h : StInv S q) : ∀ i life seq bs, S.W i = some (life, seq, bs) → bs.length ≤ 1000000 := fun i life seq bs hb => by
  obtain ⟨rep, h1, _, _, h4⟩ := h.win i _ hb
  have := h1.len
  dsimp only at h4
  rw [h4]
  omega
set_option maxHeartbeats 1600000 in
theorem gasked_old (o : Nat → Nat) (K n : Nat) (L : Plc) (S : St) (r : Req) (rv dv fv : Value) (w : World) (h : StateAt w o K L S n) (ok : StOk S) (hf : Fresh w o) :
    Calls Tryz.prog 55 #[.pointer (some ⟨L.s, 0, none⟩), fv, .agg (r.cells rv dv), .int .i64 2] w (Told w o K L n (plainRep 17 0 0 0 0 false, S)) := by
  obtain ⟨f0, k0, k1, H0, G0⟩ := begun h ok hf r rv dv
  have hlt := lt_of_block k1
  have HQ : Hid (∀ w3, Fr (fun j => j = w.heap.size + 1) (deedW w r rv dv) w3 → Told w o K L n (plainRep 17 0 0 0 0 false, S) (.returned (plainV 17 0 0 0 0 false)) w3) := Lib.hid (fun w3 g => by
    obtain ⟨a, b⟩ := last_ hf f0 (Step.refl (C := stateC K) G0) (Nat.le_succ _) hlt g
    exact ⟨⟨o, a, H0.step ok b (fun c h e => by unfold stateC at h; omega)⟩, .slice none 0 0, .slice none 0 0, rfl, rfl, rfl⟩)
  generalize Told w o K L n (plainRep 17 0 0 0 0 false, S) = Q at *
  have K1 := Lib.hid k1
  have hbd : ∀ w' : World, (Instr.build 29 #[(0, .int .i64 17)]).run Tryz.prog w' = .ok (.agg #[.int .i64 17, .int .i64 0, .int .i64 0, .int .i64 0, .int .i64 0, .bool false, .slice none 0 0, .slice none 0 0]) w' := fun w' => by kernel_rfl
  have HOC := Lib.hid (show (#[.int .i64 17, .int .i64 0, .int .i64 0, .int .i64 0, .int .i64 0, .bool false, .slice none 0 0, .slice none 0 0] : Array Value).all (·.oneCell') = true from by simp [Value.oneCell'])
  clear f0 k0 k1 H0 G0 h ok hf hlt
  unfold deedW Req.cells noRep RepS.cells at *
  go_enter Tryz.func55, Tryz.ntmps55
  go_upto_region 1 with fail
  generalize (w.alloc (.cells #[.int .i64 r.c, .int .i64 r.l, .int .i64 r.q, .int .i64 r.kind, .string (ba r.path), .string (ba r.to), .bool r.dir, .bool r.wr, .bool r.cl, .int .i64 r.h, .int .i64 r.nx, .int .i64 r.sw, rv, dv] 36)).alloc (.cells #[.int .i64 0, .int .i64 0, .int .i64 0, .int .i64 0, .int .i64 0, .bool false, .slice none 0 0, .slice none 0 0] 29) = w0 at *
  go_wp2_with (refine wpList_store_row rfl 29 (.tmp 8) (.tmp 14) rfl (w.heap.size + 1) #[.int .i64 17, .int .i64 0, .int .i64 0, .int .i64 0, .int .i64 0, .bool false, .slice none 0 0, .slice none 0 0] rfl rfl 29 _ K1.out Tryz.size29 rfl HOC.out ?_)
  have KF := setRow_at (cs' := #[.int .i64 17, .int .i64 0, .int .i64 0, .int .i64 0, .int .i64 0, .bool false, .slice none 0 0, .slice none 0 0]) K1.out
  exact bodyPost_ret (v := plainV 17 0 0 0 0 false) (results_cell_row rfl _ _ (w.heap.size + 1) 29 _ (0, 0) _ rfl KF Tryz.underlying29 rfl Tryz.size29) rfl
    (HQ.out _ (Fr.setRow (S := fun j => j = w.heap.size + 1) (Fr.refl _) (.inl rfl) _))
theorem Told.after {w w1 w' : World} {o o1 : Nat → Nat} {K n : Nat} {L : Plc} {x : RepS × St} {e : Ending} (s : Step (stateC K) w o w1 o1) (h : Told w1 o1 K L n x e w') : Told w o K L n x e w' := by
  obtain ⟨⟨o2, s2, t2⟩, h2⟩ := h
  exact ⟨⟨o2, s.trans s2 (fun _ e => e), t2⟩, h2⟩
theorem Told.more {w w' : World} {o : Nat → Nat} {K n n' : Nat} {L : Plc} {x : RepS × St} {e : Ending} (h : Told w o K L n x e w') (hn : n ≤ n') : Told w o K L n' x e w' := by
  obtain ⟨⟨o2, s2, t2⟩, h2⟩ := h
  exact ⟨⟨o2, s2, t2.more hn⟩, h2⟩
def ApplyPost2 (w : World) (o : Nat → Nat) (K n q : Nat) (L : Plc) (S : St) (r : Req) (st : List Sz) (dl : List Dl) (e : Ending) (w' : World) : Prop :=
  ∃ x, Did S r st dl x ∧ StInv x.2 (q + 2) ∧ Told w o K L (n + 100) x e w'
theorem gapply_ (o : Nat → Nat) (K n q : Nat) (L : Plc) (S : St) (r : Req) (rv dv : Value) (st : List Sz) (dl : List Dl) (w : World) (h : StateAt w o K L S n) (inv : StInv S q) (hf : Fresh w o) (hr : RowsAt szC 4 w o rv st) (hd : RowsAt dlC 14 w o dv dl) (sm : Small r st dl) (hq : q ≤ 90000) (hn : n ≤ 400000) :
    Calls Tryz.prog 15 #[.pointer (some ⟨L.s, 0, none⟩), .agg (r.cells rv dv)] w (ApplyPost2 w o K n q L S r st dl) := by
  have ok := inv.ok
  have p3 := sm.few
  have p4 := sm.some_
  have nos : ¬ stateC K 0 := by unfold stateC; omega
  have hcl := inv.clock
  have hbo := inv.boots
  have hsw := inv.swaps
  by_cases h10 : r.kind = 10
  · have hF := fine_boot inv r
    refine (gap50_ o K n n L S r rv dv w (triedOf (bootD S r)) h ok hf h10 (by rw [triedOf_st]; exact hF.inv.ok) (fun w1 f => ?_)).mono (fun e w' t => ⟨tell (triedOf (bootD S r)), by unfold Did; rw [if_pos h10], ?_, t.more (by omega)⟩)
    · have hf1 : Fresh w1 o := (Step.no (C := fun _ => False) hf f).fresh
      obtain ⟨f0, _, _, H0, G0⟩ := begun (h.no ok hf f) ok hf1 r rv dv
      exact gtried_ 50 (by simp) o K n L _ r rv dv w1 hf1 hF.inv.ok (dboot_ o K n L S r rv dv _ H0 ok G0 (by omega) (by omega) (by omega))
    · show StInv (triedOf (bootD S r)).2 (q + 2)
      rw [triedOf_st]
      exact hF.inv.more (by omega)
  by_cases h11 : r.kind = 11
  · have hF := fine_swap inv r
    refine (gap51_ o K n n L S r rv dv w (triedOf (swapD S r)) h ok hf h11 (by rw [triedOf_st]; exact hF.inv.ok) (fun w1 f => ?_)).mono (fun e w' t => ⟨tell (triedOf (swapD S r)), by unfold Did; rw [if_neg h10, if_pos h11], ?_, t.more (by omega)⟩)
    · have hf1 : Fresh w1 o := (Step.no (C := fun _ => False) hf f).fresh
      obtain ⟨f0, _, _, H0, G0⟩ := begun (h.no ok hf f) ok hf1 r rv dv
      exact gtried_ 51 (by simp) o K n L _ r rv dv w1 hf1 hF.inv.ok (dswap_ o K n L S r rv dv _ H0 ok G0 (by omega) (by omega) (by omega))
    · show StInv (triedOf (swapD S r)).2 (q + 2)
      rw [triedOf_st]
      exact hF.inv.more (by omega)
  by_cases h9 : r.kind = 9
  · have hF := fine_moved inv r st dl
    refine (gap52_ o K n (n + st.length) L S r rv dv w (triedOf (movedD S r st dl)) h ok hf h9 (by rw [triedOf_st]; exact hF.inv.ok) (fun w1 f => ?_)).mono (fun e w' t => ⟨tell (triedOf (movedD S r st dl)), by unfold Did; rw [if_neg h10, if_neg h11, if_pos h9], ?_, t.more (by omega)⟩)
    · have hf1 : Fresh w1 o := (Step.no (C := fun _ => False) hf f).fresh
      obtain ⟨f0, _, _, H0, G0⟩ := begun (h.no ok hf f) ok hf1 r rv dv
      exact gtried_ 52 (by simp) o K _ L _ r rv dv w1 hf1 hF.inv.ok (dmoved_ o K n L S r rv dv st dl _ H0 ok inv.pts G0 ((hr.no hf f).no hf1 f0) ((hd.no hf f).no hf1 f0) sm.good (by omega) (by omega) (by omega) (by omega))
    · show StInv (triedOf (movedD S r st dl)).2 (q + 2)
      rw [triedOf_st]
      exact hF.inv.more (by omega)
  by_cases hk : 1 ≤ r.kind ∧ r.kind ≤ 8
  · rcases ask_cases S.W r.c r.l r.q with ha | ⟨hc, ha⟩
    · refine (gap_ask o K n n L S r rv dv w (plainRep 17 0 0 0 0 false, S) 2 h ok hf hk inv.winlen ha (by decide) ok (fun w1 f => ?_)).mono (fun e w' t => ⟨_, ?_, inv.more (by omega), t.more (by omega)⟩)
      · exact gasked_old o K n L S r rv dv _ w1 (h.no ok hf f) ok (Step.no (C := fun _ => False) hf f).fresh
      · unfold Did
        rw [if_neg h10, if_neg h11, if_neg h9, if_neg (fun hq => hq hk), ha, if_neg (by decide), if_pos rfl]
        rfl
    · have hres : ∀ kd, (kd = 0 ∨ kd = 3) → askOf S.W r.c r.l r.q = (kd, none) → Calls Tryz.prog 15 #[.pointer (some ⟨L.s, 0, none⟩), .agg (r.cells rv dv)] w (ApplyPost2 w o K n q L S r st dl) := fun kd hkd ha => by
        have hne1 : kd ≠ 1 := by omega
        have hne2 : kd ≠ 2 := by omega
        have inv1 := inv.askB r.c.toNat kd
        have hF := fine_all inv1 r st dl r.kind hc
        have hW := win_all (Go.Proofs.YtlcojhddnpmgmaaGreat.askB S r.c.toNat kd) r st dl r.kind
        have hWB : (Go.Proofs.YtlcojhddnpmgmaaGreat.askB S r.c.toNat kd).W = S.W := by unfold Go.Proofs.YtlcojhddnpmgmaaGreat.askB; split <;> rfl
        have hsx := hF.inv.swaps
        have hinv := asked_inv hF (by omega) r.c.toNat r
        refine (gap_ask o K n (n + 100) L S r rv dv w (askedS (triedOf (deedF r st dl r.kind (Go.Proofs.YtlcojhddnpmgmaaGreat.askB S r.c.toNat kd))) r.c.toNat r) kd h ok hf hk inv.winlen ha (by simpa using hne1) hinv.ok (fun w1 f => ?_)).mono (fun e w' t => ⟨_, ?_, hinv.more (by omega), t⟩)
        · have hf1 : Fresh w1 o := (Step.no (C := fun _ => False) hf f).fresh
          refine gasked_ o K n (n + 100) L S r rv dv (deedV r.kind) kd w1 _ (h.no ok hf f) ok hf1 hc hkd (by omega) (by rw [ha]) inv.winlen ?_ ?_ ?_ (fun w2 o2 s t => ?_)
          · rw [triedOf_st, hW, hWB]
          · rw [triedOf_st]; exact hF.inv.ok
          · exact (tried_rep hF (by rw [triedOf_st]; omega)).1
          · exact tried_all o2 K n (q + 1) L _ r rv dv st dl r.kind w2 hk t inv1 s.fresh ((hr.no hf f).step s nos) ((hd.no hf f).step s nos) sm hc (by omega) (by omega)
        · unfold Did
          rw [if_neg h10, if_neg h11, if_neg h9, if_neg (fun hq => hq hk), ha, if_neg hne1, if_neg hne2]
          rfl
      rcases ha with ha | ha | ha | ⟨y, hy, ha⟩
      · exact hres 3 (.inr rfl) ha
      · refine (gap_ask o K n n L S r rv dv w (plainRep 17 0 0 0 0 false, S) 2 h ok hf hk inv.winlen ha (by decide) ok (fun w1 f => ?_)).mono (fun e w' t => ⟨_, ?_, inv.more (by omega), t.more (by omega)⟩)
        · exact gasked_old o K n L S r rv dv _ w1 (h.no ok hf f) ok (Step.no (C := fun _ => False) hf f).fresh
        · unfold Did
          rw [if_neg h10, if_neg h11, if_neg h9, if_neg (fun hq => hq hk), ha, if_neg (by decide), if_pos rfl]
          rfl
      · exact hres 0 (.inl rfl) ha
      · obtain ⟨rep, g1, g2, g3, g4⟩ := inv.win _ y hy
        rw [g4] at ha
        refine (gap_again o K n n L S r rv dv w rep h ok hf hk inv.winlen ha g1 g3 rfl).mono (fun e w' t => ⟨(rep, S), ?_, inv.more (by omega), t.more (by omega)⟩)
        unfold Did
        rw [if_neg h10, if_neg h11, if_neg h9, if_neg (fun hq => hq hk), ha, if_pos rfl]
        exact ⟨rfl, rfl, g1⟩
  · refine (gap_none o K n n L S r rv dv w h ok hf hk (by simpa using h9) (by simpa using h10) (by simpa using h11) rfl).mono (fun e w' t => ⟨tell (plainRep 1 0 0 0 0 false, S), ?_, inv.more (by omega), t.more (by omega)⟩)
    unfold Did
    rw [if_neg h10, if_neg h11, if_neg h9, if_pos hk]
theorem counted_sub {F : Nat → Option FMap} {U : Stp → Option Us} {y : Stp} (h : (countedU F U y).isSome = true) : (U y).isSome = true := by
  unfold countedU at h
  cases hU : U y with
  | none => rw [hU] at h; simp at h
  | some _ => rfl
theorem addU_some (c : Int) : ∀ (st : List Sz) (U : Stp → Option Us) (y : Stp), (addU c st U y).isSome = true → (U y).isSome = true ∨ ∃ s ∈ st, s.1 = y
  | [], U, y, h => .inl h
  | s :: r, U, y, h => by
    have h' : (addU c r (fun z => if z = s.1 then some (s.2, 0, c) else U z) y).isSome = true := h
    rcases addU_some c r _ y h' with h1 | ⟨t, ht, e⟩
    · by_cases e : y = s.1
      · exact .inr ⟨s, by simp, e.symm⟩
      · rw [if_neg e] at h1
        exact .inl h1
    · exact .inr ⟨t, by simp [ht], e⟩
theorem sizes_all (S : St) (nx c l : Int) : ∀ (st : List Sz) (m m' : Stp → Option Int), sizesOf S nx c l st m = some m' → ∀ s ∈ st, s.1.1 = c ∧ s.1.2.1 = l ∧ S.next c.toNat ≤ s.1.2.2 ∧ s.1.2.2 < nx
  | [], _, _, _, s, hs => by simp at hs
  | x :: r, m, m', h, s, hs => by
    unfold sizesOf at h
    split at h
    · rename_i hx
      rcases List.mem_cons.1 hs with rfl | hs
      · obtain ⟨_, _, h3, h4, h5, h6, _, _⟩ := hx
        exact ⟨by simpa using h3, by simpa using h4, h5, h6⟩
      · exact sizes_all S nx c l r _ m' h s hs
    · cases h
theorem stripes_all {S : St} {sw nx : Int} {st : List Sz} {c l : Int} (h : (stripesE S sw nx st c l).1 = 0) : (∀ s ∈ st, s.1.1 = c ∧ s.1.2.1 = l ∧ S.next c.toNat ≤ s.1.2.2 ∧ s.1.2.2 < nx) ∧ S.next c.toNat ≤ nx := by
  unfold stripesE at h
  split at h
  · cases h
  · split at h
    · cases h
    · rename_i h2
      split at h
      · cases h
      · rename_i m hm
        exact ⟨sizes_all S nx c l st _ m hm, (Classical.byContradiction h2).1⟩
structure Fair (c : Nat) (l : Int) (B D : St) : Prop where
  U : ∀ y, (D.U y).isSome = true → (B.U y).isSome = true ∨ (y.1 = (c : Int) ∧ y.2.1 = l ∧ B.next c ≤ y.2.2)
  other : ∀ i, i ≠ c → D.next i = B.next i
  more : B.next c ≤ D.next c
  boots : D.boots = B.boots
  W : D.W = B.W
theorem Fair.refl (c : Nat) (l : Int) (B : St) : Fair c l B B := ⟨fun _ h => .inl h, fun _ _ => rfl, Int.le_refl _, rfl, rfl⟩
theorem fair_add {c : Nat} {l : Int} {S : St} {sw nx : Int} {st : List Sz} (h : (stripesE S sw nx st c l).1 = 0) (F : Nat → Option FMap) (K : List Tok) (ck : Int) : Fair c l S { addS { S with clock := ck } st c nx with F := F, U := countedU F (addS { S with clock := ck } st c nx).U, K := K } := by
  obtain ⟨h1, h2⟩ := stripes_all h
  rw [Int.toNat_natCast] at h1 h2
  refine ⟨fun y hy => ?_, fun i hi => ?_, ?_, rfl, rfl⟩
  · rcases addU_some _ st _ y (counted_sub hy) with h3 | ⟨s, hs, e⟩
    · exact .inl h3
    · obtain ⟨g1, g2, g3, _⟩ := h1 s hs
      rw [e] at g1 g2 g3
      exact .inr ⟨g1, g2, g3⟩
  · simp [addS, updN, hi]
  · simp [addS, updN, h2]
theorem fair_all (S : St) (r : Req) (st : List Sz) (dl : List Dl) (k : Int) (hc : 0 ≤ r.c ∧ r.c < 4) : Fair r.c.toNat r.l S (deedF r st dl k S).2.2 := by
  have hcc : ((r.c.toNat : Nat) : Int) = r.c := Int.toNat_of_nonneg hc.1
  unfold deedF
  split
  · unfold makeD makeS; split <;> exact ⟨fun _ h => .inl h, fun _ _ => rfl, Int.le_refl _, rfl, rfl⟩
  · split
    · unfold removeD removeS
      split
      · exact Fair.refl _ _ _
      · split
        · exact Fair.refl _ _ _
        · split
          · exact Fair.refl _ _ _
          · dsimp only
            split
            · exact ⟨fun _ h => .inl h, fun _ _ => rfl, Int.le_refl _, rfl, rfl⟩
            · exact ⟨fun _ h => .inl (counted_sub h), fun _ _ => rfl, Int.le_refl _, rfl, rfl⟩
    · split
      · unfold moveD; split <;> exact ⟨fun _ h => .inl h, fun _ _ => rfl, Int.le_refl _, rfl, rfl⟩
      · split
        · unfold lookD; split <;> exact Fair.refl _ _ _
        · split
          · unfold listD; split <;> exact Fair.refl _ _ _
          · split
            · unfold openD
              split
              · exact Fair.refl _ _ _
              · split
                · exact Fair.refl _ _ _
                · split
                  · exact Fair.refl _ _ _
                  · exact ⟨fun _ h => .inl h, fun _ _ => rfl, Int.le_refl _, rfl, rfl⟩
            · split
              · unfold commitD
                split
                · exact Fair.refl _ _ _
                · split
                  · exact Fair.refl _ _ _
                  · split
                    · exact Fair.refl _ _ _
                    · rename_i h3
                      split
                      · exact Fair.refl _ _ _
                      · have h3 := Classical.byContradiction h3
                        rw [← hcc] at h3
                        exact fair_add h3 _ _ S.clock
              · unfold mapD
                split <;> exact Fair.refl _ _ _
theorem waste_fair {c : Nat} {l : Int} {S B D : St} {x : Stp} (hw : wasteS S x) (hc : c < 4) (hBU : B.U = S.U) (hBb : B.boots = S.boots) (hBo : ∀ i, i ≠ c → B.next i = S.next i) (f : Fair c l B D) (W' : Nat → Option WRow) (hW : ∀ i, i ≠ c → W' i = S.W i) (hWc : lifeOf W' c = l)
    (hl : (l = lifeOf S.W c ∧ B.next c = S.next c) ∨ lifeOf S.W c < l) : wasteS { D with W := W' } x := by
  obtain ⟨h1, h2, h3, h4⟩ := hw
  by_cases hx : x.1 = (c : Int)
  · have hne : x.1 ≠ 4 := by omega
    have hls : lifeS S x.1 = lifeOf S.W c := by unfold lifeS; rw [if_neg hne, hx]
    have hld : lifeS { D with W := W' } x.1 = l := by unfold lifeS; rw [if_neg hne, hx]; exact hWc
    rw [hls, hx, Int.toNat_natCast] at h4
    have hm := f.more
    refine ⟨h1, h2, ?_, ?_⟩
    · cases hU : (D.U x).isSome with
      | false => rfl
      | true =>
        rcases f.U x hU with g | ⟨_, g2, g3⟩
        · rw [hBU, h3] at g; cases g
        · rcases hl with ⟨e1, e2⟩ | e <;> omega
    · rw [hld, hx, Int.toNat_natCast]
      show x.2.1 < l ∨ x.2.1 = l ∧ x.2.2 < D.next c
      rcases hl with ⟨e1, e2⟩ | e <;> omega
  · have hi : x.1.toNat ≠ c := by omega
    have hld : lifeS { D with W := W' } x.1 = lifeS S x.1 := by
      unfold lifeS
      split
      · exact f.boots.trans hBb
      · unfold lifeOf
        dsimp only
        rw [hW _ hi]
    refine ⟨h1, h2, ?_, ?_⟩
    · cases hU : (D.U x).isSome with
      | false => rfl
      | true =>
        rcases f.U x hU with g | ⟨g1, _⟩
        · rw [hBU, h3] at g; cases g
        · exact absurd g1 hx
    · rw [hld]
      show _ ∨ _ ∧ x.2.2 < D.next x.1.toNat
      rw [f.other _ hi, hBo _ hi]
      exact h4
theorem waste_keeps {S : St} {q : Nat} {r : Req} {st : List Sz} {dl : List Dl} {x' : RepS × St} (inv : StInv S q) (hd : Did S r st dl x') {x : Stp} (hw : wasteS S x) : wasteS x'.2 x := by
  unfold Did at hd
  split at hd
  · rw [hd]
    show wasteS (triedOf (bootD S r)).2 x
    rw [triedOf_st]
    unfold bootD
    split
    · obtain ⟨h1, h2, h3, h4⟩ := hw
      refine ⟨h1, h2, h3, ?_⟩
      show x.2.1 < lifeS (bootS S) x.1 ∨ x.2.1 = lifeS (bootS S) x.1 ∧ x.2.2 < (bootS S).next x.1.toNat
      by_cases h5 : x.1 = 4
      · have e1 : lifeS (bootS S) x.1 = S.boots + 1 := by unfold lifeS; rw [if_pos h5]; rfl
        have e2 : lifeS S x.1 = S.boots := by unfold lifeS; rw [if_pos h5]
        rw [e2] at h4
        rw [e1]
        omega
      · have e1 : lifeS (bootS S) x.1 = lifeS S x.1 := by unfold lifeS; rw [if_neg h5, if_neg h5]; rfl
        have e2 : (bootS S).next x.1.toNat = S.next x.1.toNat := by
          unfold bootS updN
          dsimp only
          rw [if_neg (by omega)]
        rw [e1, e2]
        exact h4
    · exact hw
  · split at hd
    · rw [hd]
      show wasteS (triedOf (swapD S r)).2 x
      rw [triedOf_st]
      unfold swapD
      split <;> exact hw
    · split at hd
      · rw [hd]
        show wasteS (triedOf (movedD S r st dl)).2 x
        rw [triedOf_st]
        unfold movedD
        split
        · exact hw
        · split
          · exact hw
          · rename_i h2
            split
            · exact hw
            · have h2 := Classical.byContradiction h2
              obtain ⟨g1, g2⟩ := stripes_all h2
              obtain ⟨h1, h2', h3, h4⟩ := hw
              have hlf : lifeS (movedS S st dl r.nx) x.1 = lifeS S x.1 := rfl
              refine ⟨h1, h2', ?_, ?_⟩
              · cases hU : ((movedS S st dl r.nx).U x).isSome with
                | false => rfl
                | true =>
                  rcases addU_some _ st _ x (counted_sub hU) with h5 | ⟨s, hs, e⟩
                  · have h5 : (S.U x).isSome = true := h5
                    rw [h3] at h5; cases h5
                  · obtain ⟨a1, a2, a3, _⟩ := g1 s hs
                    rw [e] at a1 a2 a3
                    have e2 : lifeS S x.1 = S.boots := by unfold lifeS; rw [if_pos a1]
                    rw [e2, a1] at h4
                    have a3' : S.next 4 ≤ x.2.2 := a3
                    have h4' : x.2.1 < S.boots ∨ x.2.1 = S.boots ∧ x.2.2 < S.next 4 := h4
                    omega
              · show x.2.1 < lifeS (movedS S st dl r.nx) x.1 ∨ x.2.1 = lifeS (movedS S st dl r.nx) x.1 ∧ x.2.2 < (movedS S st dl r.nx).next x.1.toNat
                rw [hlf]
                have hn : S.next x.1.toNat ≤ (movedS S st dl r.nx).next x.1.toNat := by
                  unfold movedS addS updN
                  dsimp only
                  split
                  · rename_i e
                    rw [e]
                    exact g2
                  · exact Int.le_refl _
                omega
      · split at hd
        · rw [hd]; exact hw
        · split at hd
          · rw [hd.1]; exact hw
          · split at hd
            · rw [hd]; exact hw
            · rename_i hk1 hk2
              rcases ask_cases S.W r.c r.l r.q with ha | ⟨hc, ha⟩
              · rw [ha] at hk2; exact absurd rfl hk2
              · have hcc : ((r.c.toNat : Nat) : Int) = r.c := Int.toNat_of_nonneg hc.1
                rw [hd]
                show wasteS { (triedOf (deedF r st dl r.kind (askB S r.c.toNat (askOf S.W r.c r.l r.q).1))).2 with W := upd (triedOf (deedF r st dl r.kind (askB S r.c.toNat (askOf S.W r.c r.l r.q).1))).2.W r.c.toNat _ } x
                rw [triedOf_st]
                generalize hkd : (askOf S.W r.c r.l r.q).1 = kd at *
                have hBU : (Go.Proofs.YtlcojhddnpmgmaaGreat.askB S r.c.toNat kd).U = S.U := by unfold Go.Proofs.YtlcojhddnpmgmaaGreat.askB; split <;> rfl
                have hBb : (Go.Proofs.YtlcojhddnpmgmaaGreat.askB S r.c.toNat kd).boots = S.boots := by unfold Go.Proofs.YtlcojhddnpmgmaaGreat.askB; split <;> rfl
                have hBW : (Go.Proofs.YtlcojhddnpmgmaaGreat.askB S r.c.toNat kd).W = S.W := by unfold Go.Proofs.YtlcojhddnpmgmaaGreat.askB; split <;> rfl
                have hBo : ∀ i, i ≠ r.c.toNat → (Go.Proofs.YtlcojhddnpmgmaaGreat.askB S r.c.toNat kd).next i = S.next i := fun i hi => by
                  unfold Go.Proofs.YtlcojhddnpmgmaaGreat.askB
                  split
                  · simp [updN, hi]
                  · rfl
                have hf := fair_all (Go.Proofs.YtlcojhddnpmgmaaGreat.askB S r.c.toNat kd) r st dl r.kind hc
                refine waste_fair hw (by omega) hBU hBb hBo hf _ (fun i hi => by rw [upd_other _ _ hi, hf.W, hBW]) ?_ ?_
                · unfold lifeOf
                  rw [hcc, if_pos hc, upd_same]
                · unfold askOf at hkd
                  split at hkd
                  · rename_i hmay
                    have hlo : lifeOf S.W ((r.c.toNat : Nat) : Int) = match S.W r.c.toNat with | none => -1 | some (life, _, _) => life := by unfold lifeOf; rw [hcc, if_pos hc]; cases S.W r.c.toNat <;> rfl
                    rw [hlo]
                    cases hWc : S.W r.c.toNat with
                    | none => right; show (-1 : Int) < r.l; omega
                    | some y =>
                      obtain ⟨life, seq, bs⟩ := y
                      rw [hWc] at hkd
                      dsimp only at hkd ⊢
                      unfold kindOf at hkd
                      split at hkd
                      · omega
                      · rename_i n1
                        split at hkd
                        · rename_i n2
                          right; exact n2
                        · rename_i n2
                          split at hkd
                          · omega
                          · left
                            refine ⟨by omega, ?_⟩
                            subst hkd
                            rfl
                  · dsimp only at hkd; omega
def rootT : Tree := fun k => if k = 1 then some ⟨0, [], true⟩ else none
def S0 : St := ⟨0, 0, 0, fun _ => 0, fun _ => none, rootT, [], fun _ => none, fun _ => none⟩
theorem rootT_some {k : Nat} {x : Node} (h : rootT k = some x) : k = 1 ∧ x = ⟨0, [], true⟩ := by
  unfold rootT at h
  split at h
  · rename_i e
    cases h
    exact ⟨e, rfl⟩
  · cases h
theorem rootT_ok : TreeOk rootT where
  root := rfl
  zero := rfl
  top := fun k hk => by unfold rootT; rw [if_neg (by omega)]
  up := fun k x h hk => absurd (rootT_some h).1 hk
  name := fun k x h hk => absurd (rootT_some h).1 hk
  one := fun j k x y hj hk _ _ => by rw [(rootT_some hj).1, (rootT_some hk).1]
theorem rootT_things : things rootT = 1 := by decide
theorem rootT_kidN : kidN rootT 1 = 0 := by decide
theorem rootT_kid (s : List UInt8) : kid rootT 1 s = none := by
  cases h : kid rootT 1 s with
  | none => rfl
  | some k =>
    obtain ⟨x, h1, h2, _⟩ := kid_some h
    rw [(rootT_some h1).2] at h2
    cases h2
theorem S0_inv : StInv S0 0 where
  ok := ⟨rootT_ok, fun i m h => by cases h⟩
  pts := fun i m h => by cases h
  dir := fun k x h hd => by
    have := (rootT_some h).2
    rw [this] at hd
    cases hd
  tok := fun x hx => by cases hx
  small := fun x hx => by cases hx
  few := Nat.le_refl _
  boots := ⟨Int.le_refl _, Int.le_refl _⟩
  swaps := ⟨Int.le_refl _, Int.le_refl _⟩
  clock := ⟨Int.le_refl _, Int.le_refl _⟩
  win := fun i y h => by cases h
def TreePost (w : World) (e : Ending) (w' : World) : Prop :=
  ∃ tr th root rin : Nat, e = .returned (.pointer (some ⟨tr, 0, none⟩)) ∧ Fr No w w' ∧ w.heap.size ≤ th ∧ th < rin ∧ rin < root ∧ root < tr ∧
    w'.heap[tr]? = some (.cells #[.map (some th)] 132 (0, 0)) ∧ MapAt encI w' th 1 (fun z => if z = 1 then some root else none) ∧
    w'.heap[root]? = some (.cells #[.int .i64 0, .string ⟨#[]⟩, .bool true, .map (some rin)] 141 (0, 0)) ∧ MapAt encS w' rin 0 (fun _ => none)
set_option maxHeartbeats 400000 in
theorem gtree_new (w : World) : Calls Tryz.prog 45 #[] w (TreePost w) := by
  have hmm := @run_makeMap Tryz.prog
  go_enter Tryz.func45, Tryz.ntmps45
  go_wp2_with fail
  refine (directory_ _ _ _).mono ?_; rintro e w1 ⟨rfl, rfl⟩
  have m0 := MapAt.made encI w
  have F1 : Fr No (w.alloc (.map #[] 0)) (((w.alloc (.map #[] 0)).alloc (.map #[] 0)).alloc (.cells #[.int .i64 0, .string ⟨#[]⟩, .bool true, .map (some (w.heap.size + 1))] 141)) := ((Fr.refl _).alloc _).alloc _
  have m1 := MapAt.made encS (w.alloc (.map #[] 0))
  rw [show (w.alloc (.map #[] 0)).heap.size = w.heap.size + 1 by simp] at m1
  have F2 : Fr No ((w.alloc (.map #[] 0)).alloc (.map #[] 0)) (((w.alloc (.map #[] 0)).alloc (.map #[] 0)).alloc (.cells #[.int .i64 0, .string ⟨#[]⟩, .bool true, .map (some (w.heap.size + 1))] 141)) := (Fr.refl _).alloc _
  have k2 : (((w.alloc (.map #[] 0)).alloc (.map #[] 0)).alloc (.cells #[.int .i64 0, .string ⟨#[]⟩, .bool true, .map (some (w.heap.size + 1))] 141)).heap[w.heap.size + 1 + 1]? = some (.cells #[.int .i64 0, .string ⟨#[]⟩, .bool true, .map (some (w.heap.size + 1))] 141 (0, 0)) := by
    simpa using new_at ((w.alloc (.map #[] 0)).alloc (.map #[] 0)) (.cells #[.int .i64 0, .string ⟨#[]⟩, .bool true, .map (some (w.heap.size + 1))] 141)
  have F : Fr No w (((w.alloc (.map #[] 0)).alloc (.map #[] 0)).alloc (.cells #[.int .i64 0, .string ⟨#[]⟩, .bool true, .map (some (w.heap.size + 1))] 141)) := (((Fr.refl w).alloc _).alloc _).alloc _
  have hsz : (((w.alloc (.map #[] 0)).alloc (.map #[] 0)).alloc (.cells #[.int .i64 0, .string ⟨#[]⟩, .bool true, .map (some (w.heap.size + 1))] 141)).heap.size = w.heap.size + 1 + 1 + 1 := by simp
  obtain ⟨w9, hu, m9, f9⟩ := (m0.fr F1 id).put (1 : Int) (w.heap.size + 1 + 1) (show I64 _ by unfold I64; omega) trivial (by omega) (t := 130) (e := 142) Tryz.underlying130
  have hu' : (Instr.mapUpdate 130 (.map (some w.heap.size)) (.int .i64 1) (.pointer (some ⟨w.heap.size + 1 + 1, 0, none⟩))).run Tryz.prog (((w.alloc (.map #[] 0)).alloc (.map #[] 0)).alloc (.cells #[.int .i64 0, .string ⟨#[]⟩, .bool true, .map (some (w.heap.size + 1))] 141)) = .ok () w9 := hu
  have K2 := Lib.hid (f9.block_of k2 (by omega))
  have M9 := Lib.hid m9
  have M1 := Lib.hid ((m1.fr F2 id).fr f9 (by omega))
  have F9 : Fr No w w9 := F.trans f9 (fun j hj e => by omega)
  have hs9 := f9.size
  rw [hsz] at hs9
  clear k2 m0 m1 hu m9
  go_wp2_with fail
  go_ret
  have kt := new_at w9 (.cells #[.map (some w.heap.size)] 132)
  have fz : Fr No w9 (w9.alloc (.cells #[.map (some w.heap.size)] 132)) := (Fr.refl w9).alloc _
  exact ⟨w9.heap.size, w.heap.size, w.heap.size + 1 + 1, w.heap.size + 1, rfl, F9.trans fz (fun _ _ e => e), Nat.le_refl _, by omega, by omega, by omega, kt, M9.out.fr fz id, fz.block_of K2.out id, M1.out.fr fz id⟩
def NewPost (w : World) (e : Ending) (w' : World) : Prop :=
  ∃ (L : Plc) (o : Nat → Nat), e = .returned (.pointer (some ⟨L.s, 0, none⟩)) ∧ Step (fun _ => False) w (fun _ => 0) w' o ∧ StateAt w' o 0 L S0 0
def ownNew (L : Plc) (th root rin : Nat) : Nat → Nat := fun k => if k = L.win then 1 else if k = th then 4 else if k = rin then 2001 else if k = root then 1001 else if k = L.tr then 3 else if k = L.tk then 5 else if k = L.fl then 6 else if k = L.us then 7 else if k = L.s then 8 else 0
set_option maxHeartbeats 800000 in
theorem gstate_new (w : World) : Calls Tryz.prog 14 #[] w (NewPost w) := by
  have hmm := @run_makeMap Tryz.prog
  go_enter Tryz.func14, Tryz.ntmps14
  go_wp2_with fail
  refine (once_new _).mono ?_; rintro e w1 ⟨rfl, rfl⟩
  go_wp2_with fail
  refine (gtree_new _).mono ?_; rintro e w2 ⟨tr, th, root, rin, rfl, f2, hth, hr1, hr2, hr3, ktr, mth, kroot, mrin⟩
  have KTR := Lib.hid ktr
  have KTH := Lib.hid mth
  have KRO := Lib.hid kroot
  have KRI := Lib.hid mrin
  have KW := Lib.hid (f2.block_of (new_at w (.cells #[.pointer none, .pointer none, .pointer none, .pointer none, .bool true] 152)) id)
  have F2 : Fr No w w2 := ((Fr.refl w).alloc _).trans f2 (fun _ _ e => e)
  have htr := lt_of_block ktr
  simp only [heap_size_alloc] at hth
  clear ktr mth kroot mrin f2
  go_wp2_with fail
  refine (tokens_new _).mono ?_; rintro e w3 ⟨rfl, rfl⟩
  have KT := Lib.hid (new_at w2 (.cells #[.bool true, .slice none 0 0] 155))
  have MF := Lib.hid (MapAt.made encI (w2.alloc (.cells #[.bool true, .slice none 0 0] 155)))
  have MU := Lib.hid (MapAt.made encU ((w2.alloc (.cells #[.bool true, .slice none 0 0] 155)).alloc (.map #[] 0)))
  rw [show (w2.alloc (.cells #[.bool true, .slice none 0 0] 155)).heap.size = w2.heap.size + 1 by simp] at MF
  rw [show ((w2.alloc (.cells #[.bool true, .slice none 0 0] 155)).alloc (.map #[] 0)).heap.size = w2.heap.size + 1 + 1 by simp] at MU
  have e2 : (((w2.alloc (.cells #[.bool true, .slice none 0 0] 155)).alloc (.map #[] 0)).alloc (.map #[] 0)).heap.size = w2.heap.size + 1 + 1 + 1 := by simp
  have GU : Fr No (((w2.alloc (.cells #[.bool true, .slice none 0 0] 155)).alloc (.map #[] 0)).alloc (.map #[] 0)) ((((w2.alloc (.cells #[.bool true, .slice none 0 0] 155)).alloc (.map #[] 0)).alloc (.map #[] 0)).alloc (.cells #[.int .i64 0, .int .i64 0, .int .i64 0, .int .i64 0, .int .i64 0, .int .i64 0, .int .i64 0, .int .i64 0, .pointer (some ⟨w.heap.size, 0, none⟩), .pointer (some ⟨tr, 0, none⟩), .pointer (some ⟨w2.heap.size, 0, none⟩), .map (some (w2.heap.size + 1)), .map (some (w2.heap.size + 1 + 1))] 104)) := (Fr.refl _).alloc _
  have GF : Fr No ((w2.alloc (.cells #[.bool true, .slice none 0 0] 155)).alloc (.map #[] 0)) ((((w2.alloc (.cells #[.bool true, .slice none 0 0] 155)).alloc (.map #[] 0)).alloc (.map #[] 0)).alloc (.cells #[.int .i64 0, .int .i64 0, .int .i64 0, .int .i64 0, .int .i64 0, .int .i64 0, .int .i64 0, .int .i64 0, .pointer (some ⟨w.heap.size, 0, none⟩), .pointer (some ⟨tr, 0, none⟩), .pointer (some ⟨w2.heap.size, 0, none⟩), .map (some (w2.heap.size + 1)), .map (some (w2.heap.size + 1 + 1))] 104)) := ((Fr.refl _).alloc _).alloc _
  have G1 : Fr No (w2.alloc (.cells #[.bool true, .slice none 0 0] 155)) ((((w2.alloc (.cells #[.bool true, .slice none 0 0] 155)).alloc (.map #[] 0)).alloc (.map #[] 0)).alloc (.cells #[.int .i64 0, .int .i64 0, .int .i64 0, .int .i64 0, .int .i64 0, .int .i64 0, .int .i64 0, .int .i64 0, .pointer (some ⟨w.heap.size, 0, none⟩), .pointer (some ⟨tr, 0, none⟩), .pointer (some ⟨w2.heap.size, 0, none⟩), .map (some (w2.heap.size + 1)), .map (some (w2.heap.size + 1 + 1))] 104)) := (((Fr.refl _).alloc _).alloc _).alloc _
  have G0 : Fr No w2 ((((w2.alloc (.cells #[.bool true, .slice none 0 0] 155)).alloc (.map #[] 0)).alloc (.map #[] 0)).alloc (.cells #[.int .i64 0, .int .i64 0, .int .i64 0, .int .i64 0, .int .i64 0, .int .i64 0, .int .i64 0, .int .i64 0, .pointer (some ⟨w.heap.size, 0, none⟩), .pointer (some ⟨tr, 0, none⟩), .pointer (some ⟨w2.heap.size, 0, none⟩), .map (some (w2.heap.size + 1)), .map (some (w2.heap.size + 1 + 1))] 104)) := ((((Fr.refl _).alloc _).alloc _).alloc _).alloc _
  have k1 := new_at (((w2.alloc (.cells #[.bool true, .slice none 0 0] 155)).alloc (.map #[] 0)).alloc (.map #[] 0)) (.cells #[.int .i64 0, .int .i64 0, .int .i64 0, .int .i64 0, .int .i64 0, .int .i64 0, .int .i64 0, .int .i64 0, .pointer (some ⟨w.heap.size, 0, none⟩), .pointer (some ⟨tr, 0, none⟩), .pointer (some ⟨w2.heap.size, 0, none⟩), .map (some (w2.heap.size + 1)), .map (some (w2.heap.size + 1 + 1))] 104)
  rw [e2] at k1
  have hszf : ((((w2.alloc (.cells #[.bool true, .slice none 0 0] 155)).alloc (.map #[] 0)).alloc (.map #[] 0)).alloc (.cells #[.int .i64 0, .int .i64 0, .int .i64 0, .int .i64 0, .int .i64 0, .int .i64 0, .int .i64 0, .int .i64 0, .pointer (some ⟨w.heap.size, 0, none⟩), .pointer (some ⟨tr, 0, none⟩), .pointer (some ⟨w2.heap.size, 0, none⟩), .map (some (w2.heap.size + 1)), .map (some (w2.heap.size + 1 + 1))] 104)).heap.size = w2.heap.size + 1 + 1 + 1 + 1 := by simp
  go_wp2_with fail
  go_ret
  generalize hW : (((w2.alloc (.cells #[.bool true, .slice none 0 0] 155)).alloc (.map #[] 0)).alloc (.map #[] 0)).alloc (.cells #[.int .i64 0, .int .i64 0, .int .i64 0, .int .i64 0, .int .i64 0, .int .i64 0, .int .i64 0, .int .i64 0, .pointer (some ⟨w.heap.size, 0, none⟩), .pointer (some ⟨tr, 0, none⟩), .pointer (some ⟨w2.heap.size, 0, none⟩), .map (some (w2.heap.size + 1)), .map (some (w2.heap.size + 1 + 1))] 104) = wF at *
  have s2 := F2.size
  refine ⟨⟨w2.heap.size + 1 + 1 + 1, w.heap.size, tr, w2.heap.size, w2.heap.size + 1, w2.heap.size + 1 + 1⟩, ownNew ⟨w2.heap.size + 1 + 1 + 1, w.heap.size, tr, w2.heap.size, w2.heap.size + 1, w2.heap.size + 1 + 1⟩ th root rin, rfl, ⟨(F2.trans G0 (fun _ _ e => e)).mono (fun _ _ e => e.elim), fun k hk => ?_, fun k hk => ?_⟩, ?_⟩
  · unfold ownNew
    dsimp only
    repeat (first | rw [if_neg (by omega)])
  · unfold ownNew
    dsimp only
    rw [hszf] at hk
    repeat (first | rw [if_neg (by omega)])
  · refine ⟨?_, k1, ⟨?_, fun _ => .pointer none, G0.block_of KW.out id, fun _ _ => rfl⟩, ⟨th, fun _ => root, ?_, G0.block_of KTR.out id, ?_, ?_, ?_⟩, ⟨?_, .slice none 0 0, G1.block_of KT.out id, .inl ⟨rfl, rfl⟩⟩, ⟨?_, fun _ => 0, 0, Nat.le_refl _, ?_, fun i m h => by cases h⟩, ⟨?_, 0, Nat.le_refl _, ?_⟩⟩
    · unfold ownNew
      dsimp only
      repeat (first | rw [if_pos rfl] | rw [if_neg (by omega)])
    · unfold ownNew
      dsimp only
      repeat (first | rw [if_pos rfl] | rw [if_neg (by omega)])
    · unfold ownNew
      dsimp only
      repeat (first | rw [if_pos rfl] | rw [if_neg (by omega)])
    · unfold ownNew
      dsimp only
      repeat (first | rw [if_pos rfl] | rw [if_neg (by omega)])
    · show MapAt encI wF th (things rootT) (thm rootT fun _ => root)
      rw [rootT_things]
      have e : thm rootT (fun _ => root) = fun z => if z = 1 then some root else none := by
        funext z
        unfold thm rootT
        by_cases hz : z = 1
        · subst hz; rfl
        · rw [if_neg hz]
          split
          · rw [if_neg (by omega)]; rfl
          · rfl
      rw [e]
      exact KTH.out.fr G0 id
    · intro k x hk
      obtain ⟨rfl, rfl⟩ := rootT_some hk
      refine ⟨?_, rin, ?_, G0.block_of KRO.out id, ?_⟩
      · unfold ownNew
        dsimp only
        repeat (first | rw [if_pos rfl] | rw [if_neg (by omega)])
      · unfold ownNew
        dsimp only
        repeat (first | rw [if_pos rfl] | rw [if_neg (by omega)])
      · show MapAt encS wF rin (kidN rootT 1) (kidm rootT 1)
        rw [rootT_kidN]
        have e : kidm rootT 1 = fun _ => none := by
          funext s
          unfold kidm
          rw [rootT_kid]
          rfl
        rw [e]
        exact KRI.out.fr G0 id
    · unfold ownNew
      dsimp only
      repeat (first | rw [if_pos rfl] | rw [if_neg (by omega)])
    · unfold ownNew
      dsimp only
      repeat (first | rw [if_pos rfl] | rw [if_neg (by omega)])
    · have e : filem S0.F (fun _ => 0) = fun _ => none := by
        funext z
        unfold filem S0
        split <;> rfl
      rw [e]
      exact MF.out.fr GF id
    · unfold ownNew
      dsimp only
      repeat (first | rw [if_pos rfl] | rw [if_neg (by omega)])
    · have e : usem S0.U = fun _ => none := by funext z; rfl
      rw [e]
      exact MU.out.fr GU id
def rq (n : Int) : Req := ⟨0, 0, n, 1, [47, 102], [], false, false, false, 0, 0, 0⟩
theorem rq_cells (n : Int) : (rq n).cells (.slice none 0 0) (.slice none 0 0) = req n 1 ⟨#[47, 102]⟩ := rfl
def X1 : RepS × St := askedS (triedOf (deedF (rq 1) [] [] 1 (askB S0 0 3))) 0 (rq 1)
def S1 : St := X1.2
theorem X1_rep : X1.1 = ⟨0, 2, 0, 0, 0, false, [], []⟩ := by rfl
theorem X1_ok : X1.1.ok := by rw [X1_rep]; exact plain_ok (by omega) (by omega) (by omega) (by omega) (by omega)
theorem S1_inv : StInv S1 2 := (asked_inv (fine_all (S0_inv.askB 0 3) (rq 1) [] [] 1 ⟨by decide, by decide⟩) (by omega) 0 (rq 1)).more (by omega)
theorem S1_row : S1.W 0 = some (0, 1, X1.1.bytes) := by rfl
theorem did1 {x : RepS × St} (h : Did S0 (rq 1) [] [] x) : x = X1 := by
  unfold Did at h
  rw [if_neg (show ¬ (rq 1).kind = 10 by decide), if_neg (show ¬ (rq 1).kind = 11 by decide), if_neg (show ¬ (rq 1).kind = 9 by decide), if_neg (show ¬ ¬ (1 ≤ (rq 1).kind ∧ (rq 1).kind ≤ 8) by decide)] at h
  rw [show askOf S0.W (rq 1).c (rq 1).l (rq 1).q = (3, none) by rfl, if_neg (by decide), if_neg (by decide)] at h
  exact h
theorem bytes_ino {r : RepS} (hr : r.ok) (h : r.bytes = X1.1.bytes) : r.ino = 2 := by
  obtain ⟨f1, e1⟩ := hr.raw
  obtain ⟨_, e2⟩ := X1_ok.raw
  rw [e1, e2] at h
  unfold RepS.rawB at h
  have hl : (numB 1 r.e.toNat).length = (numB 1 X1.1.e.toNat).length := by rw [numB_length, numB_length]
  have h2 := (List.append_inj h hl).2
  have hl2 : (numB 2 r.ino.toNat).length = (numB 2 X1.1.ino.toNat).length := by rw [numB_length, numB_length]
  have h3 := (List.append_inj h2 hl2).1
  rw [X1_rep, numB2, numB2] at h3
  simp only [List.cons.injEq, and_true] at h3
  have a := congrArg UInt8.toNat h3.1
  have b := congrArg UInt8.toNat h3.2
  have hi := f1.ino
  simp at a b
  omega
theorem did2 {x : RepS × St} (h : Did S1 (rq 1) [] [] x) : x.2 = S1 ∧ x.1.ino = 2 := by
  unfold Did at h
  rw [if_neg (show ¬ (rq 1).kind = 10 by decide), if_neg (show ¬ (rq 1).kind = 11 by decide), if_neg (show ¬ (rq 1).kind = 9 by decide), if_neg (show ¬ ¬ (1 ≤ (rq 1).kind ∧ (rq 1).kind ≤ 8) by decide)] at h
  have ha : askOf S1.W (rq 1).c (rq 1).l (rq 1).q = (1, some X1.1.bytes) := by
    unfold askOf
    rw [if_pos (by decide), show S1.W (rq 1).c.toNat = some (0, 1, X1.1.bytes) from S1_row]
    rfl
  rw [ha, if_pos rfl] at h
  exact ⟨h.1, bytes_ino h.2.2 (by have := h.2.1; simpa using this.symm)⟩
theorem did3 {x : RepS × St} (h : Did S1 (rq 2) [] [] x) : x.1.e = 7 := by
  unfold Did at h
  rw [if_neg (show ¬ (rq 2).kind = 10 by decide), if_neg (show ¬ (rq 2).kind = 11 by decide), if_neg (show ¬ (rq 2).kind = 9 by decide), if_neg (show ¬ ¬ (1 ≤ (rq 2).kind ∧ (rq 2).kind ≤ 8) by decide)] at h
  have ha : askOf S1.W (rq 2).c (rq 2).l (rq 2).q = (0, none) := by
    unfold askOf
    rw [if_pos (by decide), show S1.W (rq 2).c.toNat = some (0, 1, X1.1.bytes) from S1_row]
    rfl
  rw [ha, if_neg (by decide), if_neg (by decide)] at h
  rw [h]
  rfl
theorem rq_small (n : Int) : Small (rq n) [] [] := ⟨(show ([47, 102] : List UInt8).length ≤ 300 by decide), (show ([] : List UInt8).length ≤ 300 by decide), by decide, by decide, fun _ h => by cases h⟩
theorem nil_rows {α : Type} (c : α → List Value) (n : Nat) (w : World) (o : Nat → Nat) : RowsAt c n w o (.slice none 0 0) [] := ⟨none, 0, rfl, fun h => absurd rfl h⟩
def Made3 (w : World) (o : Nat → Nat) (L : Plc) (S : St) (n : Nat) (m : Int) (e : Ending) (w' : World) : Prop :=
  ∃ (x : RepS × St) (o' : Nat → Nat) (ev mv : Value), e = .returned (.agg (x.1.cells ev mv)) ∧ ev.oneCell' = true ∧ mv.oneCell' = true ∧ Did S (rq m) [] [] x ∧ Step (stateC 0) w o w' o' ∧ StateAt w' o' 0 L x.2 (n + 100)
theorem made2 (o : Nat → Nat) (n q : Nat) (m : Int) (L : Plc) (S : St) (w : World) (h : StateAt w o 0 L S n) (inv : StInv S q) (hf : Fresh w o) (hq : q ≤ 90000) (hn : n ≤ 400000) :
    Calls Tryz.prog 15 #[.pointer (some ⟨L.s, 0, none⟩), .agg (req m 1 ⟨#[47, 102]⟩)] w (Made3 w o L S n m) := by
  rw [← rq_cells]
  exact (gapply_ o 0 n q L S (rq m) _ _ [] [] w h inv hf (nil_rows _ _ _ _) (nil_rows _ _ _ _) (rq_small m) hq hn).mono (fun e w' p => by
    obtain ⟨x, h1, _, ⟨o', s, t⟩, ev, mv, he, a, b⟩ := p
    exact ⟨x, o', ev, mv, he, a, b, h1, s, t⟩)
theorem wpAny_inv {P : Program} {md : Region.Mode} {ops : Array Oper} {Q : Exit → Act → World → Prop} (Inv : Nat → Array Bool → Act → World → Prop)
    (hs : ∀ n listed a w, Inv n listed a w → ∀ i ∈ Region.ready md ops listed, ∃ m, n = m + 1 ∧ wpOp P ops Q i (Inv m (listed.setIfInBounds i true)) a w)
    (hd : ∀ n listed a w, Inv n listed a w → Region.ready md ops listed = [] → Q .normal a w) :
    ∀ n listed a w, Inv n listed a w → wpAny P md ops Q n listed a w := by
  intro n
  induction n with
  | zero =>
    intro listed a w h
    have hr : Region.ready md ops listed = [] := by
      rcases hc : Region.ready md ops listed with _ | ⟨i, l⟩
      · rfl
      · obtain ⟨m, hm, _⟩ := hs 0 listed a w h i (by rw [hc]; simp)
        omega
    exact ⟨hr, hd 0 listed a w h hr⟩
  | succ n ih =>
    intro listed a w h
    refine ⟨fun hr => hd _ listed a w h hr, fun i hi => ?_⟩
    obtain ⟨m, hm, h1⟩ := hs (n + 1) listed a w h i hi
    obtain rfl : n = m := by omega
    exact wpOp_mono (fun a w hk => ih _ a w hk) h1
structure Aw (L : Plc) (w1 : World) (o1 : Nat → Nat) (b0 b1 b2 b3 b4 b5 b6 b7 b8 b9 b10 b11 : Bool) (v3 v4 v12 v13 v14 v15 v16 v17 v18 v19 : Value) (o : Nat → Nat) (w : World) : Prop where
  fr : Fr (fun k => stateC 0 (o1 k)) w1 w
  old : ∀ k, k < w1.heap.size → o k = o1 k
  fs : Fresh w o
  rb : Zero w o w1.heap.size (.cells (req 1 1 ⟨#[47, 102]⟩) 41 (0, 0))
  m0 : b0 = true → v12 = .pointer (some ⟨L.s, 0, none⟩)
  m1 : b1 = true → v13 = .agg (req 1 1 ⟨#[47, 102]⟩)
  m2 : b2 = true → v14 = .agg (req 1 1 ⟨#[47, 102]⟩)
  m3 : b3 = true → ∃ ev mv, v15 = .agg (X1.1.cells ev mv) ∧ ev.oneCell' = true ∧ mv.oneCell' = true
  m4 : b4 = true → v16 = .pointer (some ⟨L.s, 0, none⟩)
  m5 : b5 = true → v17 = .agg (req 1 1 ⟨#[47, 102]⟩)
  m6 : b6 = true → v18 = .agg (req 1 1 ⟨#[47, 102]⟩)
  m7 : b7 = true → ∃ (r : RepS) (ev mv : Value), v19 = .agg (r.cells ev mv) ∧ r.ino = 2 ∧ ev.oneCell' = true ∧ mv.oneCell' = true
  s0 : b3 = false → StateAt w o 0 L S0 0
  s1 : b3 = true → ∃ n, n ≤ 100 + b7.toNat * 100 ∧ StateAt w o 0 L S1 n
  g8 : b8 = true → ∃ g cs, v3 = .pointer (some ⟨g, 0, none⟩) ∧ w1.heap.size < g ∧ Zero w o g (.cells cs 29 (0, 0)) ∧ cs.size = 8 ∧ (b10 = true → v15 = .agg cs)
  g9 : b9 = true → ∃ g cs, v4 = .pointer (some ⟨g, 0, none⟩) ∧ w1.heap.size < g ∧ Zero w o g (.cells cs 29 (0, 0)) ∧ cs.size = 8 ∧ (b11 = true → v19 = .agg cs)
  ne : b8 = true → b9 = true → v3 ≠ v4
  o10 : b10 = true → b8 = true
  o11 : b11 = true → b9 = true
  o6 : b6 = true → b3 = true
  o3 : b10 = true → b3 = true
  o7 : b11 = true → b7 = true
  o73 : b7 = true → b3 = true
section
variable {L : Plc} {w1 w w' : World} {o1 o o' : Nat → Nat} {b0 b1 b2 b3 b4 b5 b6 b7 b8 b9 b10 b11 : Bool} {v3 v4 v12 v13 v14 v15 v16 v17 v18 v19 : Value}
theorem Aw.step (h : Aw L w1 o1 b0 b1 b2 b3 b4 b5 b6 b7 b8 b9 b10 b11 v3 v4 v12 v13 v14 v15 v16 v17 v18 v19 o w) (s : Step (fun c => c = 0) w o w' o') (hz : ∀ b x, Zero w o b x → (b = w1.heap.size ∨ (∃ cs, x = .cells cs 29 (0, 0))) → Zero w' o' b x) (hfr : Fr (fun k => w1.heap.size ≤ k) w w') : Aw L w1 o1 b0 b1 b2 b3 b4 b5 b6 b7 b8 b9 b10 b11 v3 v4 v12 v13 v14 v15 v16 v17 v18 v19 o' w' :=
  { h with
    fr := h.fr.trans hfr (fun j hj e => by omega)
    old := fun k hk => (s.old k (Nat.lt_of_lt_of_le hk h.fr.size)).trans (h.old k hk)
    fs := s.fresh
    rb := hz _ _ h.rb (.inl rfl)
    s0 := fun e => (h.s0 e).step S0_inv.ok s (fun c h e => by unfold stateC at h; omega)
    s1 := fun e => by
      obtain ⟨n, hn, t⟩ := h.s1 e
      exact ⟨n, hn, t.step S1_inv.ok s (fun c h e => by unfold stateC at h; omega)⟩
    g8 := fun e => by
      obtain ⟨g, cs, e1, e2, e3, e4⟩ := h.g8 e
      exact ⟨g, cs, e1, e2, hz _ _ e3 (.inr ⟨cs, rfl⟩), e4⟩
    g9 := fun e => by
      obtain ⟨g, cs, e1, e2, e3, e4⟩ := h.g9 e
      exact ⟨g, cs, e1, e2, hz _ _ e3 (.inr ⟨cs, rfl⟩), e4⟩ }
theorem Aw.no (h : Aw L w1 o1 b0 b1 b2 b3 b4 b5 b6 b7 b8 b9 b10 b11 v3 v4 v12 v13 v14 v15 v16 v17 v18 v19 o w) (f : Fr No w w') : Aw L w1 o1 b0 b1 b2 b3 b4 b5 b6 b7 b8 b9 b10 b11 v3 v4 v12 v13 v14 v15 v16 v17 v18 v19 o w' :=
  h.step ((Step.no (C := fun _ => False) h.fs f).mono (fun _ e => e.elim)) (fun _ _ z _ => z.no f) f.of_no
end
def AwI (L : Plc) (w1 : World) (o1 : Nat → Nat) (n : Nat) (listed : Array Bool) (a : Act) (w : World) : Prop :=
  ∃ b0 b1 b2 b3 b4 b5 b6 b7 b8 b9 b10 b11 : Bool, ∃ v3 v4 v12 v13 v14 v15 v16 v17 v18 v19 : Value, ∃ o : Nat → Nat, n = (!b0).toNat + (!b1).toNat + (!b2).toNat + (!b3).toNat + (!b4).toNat + (!b5).toNat + (!b6).toNat + (!b7).toNat + (!b8).toNat + (!b9).toNat + (!b10).toNat + (!b11).toNat ∧ listed = #[b0, b1, b2, b3, b4, b5, b6, b7, b8, b9, b10, b11] ∧
    a = ⟨#[.bool false, .pointer (some ⟨L.s, 0, none⟩), .pointer (some ⟨w1.heap.size, 0, none⟩), v3, v4, undef, .pointer (some ⟨L.s, 0, none⟩), .pointer (some ⟨L.s, 0, none⟩), .bool false, .agg (req 0 1 ⟨#[47, 102]⟩), .pointer (some ⟨w1.heap.size, 0, none⟩), .pointer (some ⟨w1.heap.size, 2, none⟩), v12, v13, v14, v15, v16, v17, v18, v19, undef, undef, undef, undef, undef, undef, undef, undef, undef, undef, undef, undef, undef, undef, undef, undef, undef, undef, undef], []⟩ ∧
    Aw L w1 o1 b0 b1 b2 b3 b4 b5 b6 b7 b8 b9 b10 b11 v3 v4 v12 v13 v14 v15 v16 v17 v18 v19 o w
set_option maxHeartbeats 3200000 in
theorem gawake_ (w0 : World) : Calls Tryz.prog 13 #[] w0 fun e w' => e = .returned (.bool true) ∧ Fr No w0 w' := by
  go_enter Tryz.func13, Tryz.ntmps13
  go_wp2_with fail
  refine (gstate_new _).mono ?_
  rintro e w1 ⟨L, o1, rfl, sn, tn⟩
  have SN := Lib.hid sn
  have TN := Lib.hid tn
  clear sn tn
  go_wp2_with fail
  rename_i K hKK
  refine wp_region_any (by kernel_rfl) ?_
  refine wpAny_inv (AwI L w1 o1) ?step ?done _ _ _ _ ?start
  case start =>
    have f : Fr No w1 (w1.alloc (.cells (req 1 1 ⟨#[47, 102]⟩) 41)).drew := ((Fr.refl w1).alloc _).drew
    have s := (Step.no (C := fun _ => False) SN.out.fresh f)
    exact ⟨false, false, false, false, false, false, false, false, false, false, false, false, undef, undef, undef, undef, undef, undef, undef, undef, undef, undef, o1, rfl, rfl, rfl, { fr := f.of_no, old := fun _ _ => rfl, fs := s.fresh, rb := ⟨new_at w1 (.cells (req 1 1 ⟨#[47, 102]⟩) 41), SN.out.fresh _ (Nat.le_refl _)⟩, m0 := (fun e => nomatch e), m1 := (fun e => nomatch e), m2 := (fun e => nomatch e), m3 := (fun e => nomatch e), m4 := (fun e => nomatch e), m5 := (fun e => nomatch e), m6 := (fun e => nomatch e), m7 := (fun e => nomatch e), s0 := fun _ => TN.out.no S0_inv.ok SN.out.fresh f, s1 := (fun e => nomatch e), g8 := (fun e => nomatch e), g9 := (fun e => nomatch e), ne := (fun e => nomatch e), o10 := (fun e => nomatch e), o11 := (fun e => nomatch e), o6 := (fun e => nomatch e), o3 := (fun e => nomatch e), o7 := (fun e => nomatch e), o73 := (fun e => nomatch e) }⟩
  case done =>
    rintro n listed a w ⟨b0, b1, b2, b3, b4, b5, b6, b7, b8, b9, b10, b11, v3, v4, v12, v13, v14, v15, v16, v17, v18, v19, o, hn, rfl, rfl, h⟩ hr
    clear hn
    have hno := List.eq_nil_iff_forall_not_mem.1 hr
    obtain rfl : b0 = true := by
      rcases Bool.eq_false_or_eq_true b0 with e | e
      · exact e
      · exfalso
        subst e
        refine absurd ?_ (hno 0)
        refine mem_ready.2 ⟨rfl, _, rfl, ?_⟩
        intro e he hb
        exact absurd he (by simp)
    obtain rfl : b1 = true := by
      rcases Bool.eq_false_or_eq_true b1 with e | e
      · exact e
      · exfalso
        subst e
        refine absurd ?_ (hno 1)
        refine mem_ready.2 ⟨rfl, _, rfl, ?_⟩
        intro e he hb
        exact absurd he (by simp)
    obtain rfl : b2 = true := by
      rcases Bool.eq_false_or_eq_true b2 with e | e
      · exact e
      · exfalso
        subst e
        refine absurd ?_ (hno 2)
        refine mem_ready.2 ⟨rfl, _, rfl, ?_⟩
        intro e he hb
        simp at he
        subst he
        all_goals first | rfl | exact absurd hb (by decide)
    obtain rfl : b3 = true := by
      rcases Bool.eq_false_or_eq_true b3 with e | e
      · exact e
      · exfalso
        subst e
        refine absurd ?_ (hno 3)
        refine mem_ready.2 ⟨rfl, _, rfl, ?_⟩
        intro e he hb
        simp at he
        rcases he with rfl | rfl | rfl
        all_goals first | rfl | exact absurd hb (by decide)
    obtain rfl : b4 = true := by
      rcases Bool.eq_false_or_eq_true b4 with e | e
      · exact e
      · exfalso
        subst e
        refine absurd ?_ (hno 4)
        refine mem_ready.2 ⟨rfl, _, rfl, ?_⟩
        intro e he hb
        exact absurd he (by simp)
    obtain rfl : b5 = true := by
      rcases Bool.eq_false_or_eq_true b5 with e | e
      · exact e
      · exfalso
        subst e
        refine absurd ?_ (hno 5)
        refine mem_ready.2 ⟨rfl, _, rfl, ?_⟩
        intro e he hb
        exact absurd he (by simp)
    obtain rfl : b6 = true := by
      rcases Bool.eq_false_or_eq_true b6 with e | e
      · exact e
      · exfalso
        subst e
        refine absurd ?_ (hno 6)
        refine mem_ready.2 ⟨rfl, _, rfl, ?_⟩
        intro e he hb
        simp at he
        rcases he with rfl | rfl
        all_goals first | rfl | exact absurd hb (by decide)
    obtain rfl : b7 = true := by
      rcases Bool.eq_false_or_eq_true b7 with e | e
      · exact e
      · exfalso
        subst e
        refine absurd ?_ (hno 7)
        refine mem_ready.2 ⟨rfl, _, rfl, ?_⟩
        intro e he hb
        simp at he
        rcases he with rfl | rfl | rfl
        all_goals first | rfl | exact absurd hb (by decide)
    obtain rfl : b8 = true := by
      rcases Bool.eq_false_or_eq_true b8 with e | e
      · exact e
      · exfalso
        subst e
        refine absurd ?_ (hno 8)
        refine mem_ready.2 ⟨rfl, _, rfl, ?_⟩
        intro e he hb
        exact absurd he (by simp)
    obtain rfl : b9 = true := by
      rcases Bool.eq_false_or_eq_true b9 with e | e
      · exact e
      · exfalso
        subst e
        refine absurd ?_ (hno 9)
        refine mem_ready.2 ⟨rfl, _, rfl, ?_⟩
        intro e he hb
        exact absurd he (by simp)
    obtain rfl : b10 = true := by
      rcases Bool.eq_false_or_eq_true b10 with e | e
      · exact e
      · exfalso
        subst e
        refine absurd ?_ (hno 10)
        refine mem_ready.2 ⟨rfl, _, rfl, ?_⟩
        intro e he hb
        simp at he
        rcases he with rfl | rfl | rfl | rfl | rfl | rfl | rfl | rfl | rfl | rfl | rfl | rfl | rfl
        all_goals first | rfl | exact absurd hb (by decide)
    obtain rfl : b11 = true := by
      rcases Bool.eq_false_or_eq_true b11 with e | e
      · exact e
      · exfalso
        subst e
        refine absurd ?_ (hno 11)
        refine mem_ready.2 ⟨rfl, _, rfl, ?_⟩
        intro e he hb
        simp at he
        rcases he with rfl | rfl | rfl | rfl | rfl | rfl | rfl | rfl | rfl | rfl | rfl | rfl | rfl | rfl
        all_goals first | rfl | exact absurd hb (by decide)
    obtain ⟨n1, hn1, t1⟩ := h.s1 rfl
    obtain ⟨ev, mv, e15, ho1, ho2⟩ := h.m3 rfl
    obtain ⟨rr, ev', mv', e19, hino, ho3, ho4⟩ := h.m7 rfl
    obtain ⟨g, cs, rfl, hg1, hg2, _, hg3⟩ := h.g8 rfl
    obtain ⟨g', cs', rfl, hg1', hg2', _, hg3'⟩ := h.g9 rfl
    have e1 := (hg3 rfl).symm.trans e15
    have e2 := (hg3' rfl).symm.trans e19
    cases e1
    cases e2
    clear hr hno hg3 hg3' e15 e19
    show K _ _
    refine hKK _ _ ?_
    clear hKK
    have fs : Fr (fun k => k = w1.heap.size) w (w.setCell ⟨w1.heap.size, 2, none⟩ (.int .i64 2)) := Fr.setCell (S := fun k => k = w1.heap.size) (p := ⟨w1.heap.size, 2, none⟩) (Fr.refl _) (.inl rfl) _
    have ss : Step (fun c => c = 0) w o (w.setCell ⟨w1.heap.size, 2, none⟩ (.int .i64 2)) o := ⟨fs.mono (fun k _ e => by rw [e]; exact h.rb.2), fun _ _ => rfl, fun k hk => h.fs k (Nat.le_trans fs.size hk)⟩
    have TS := Lib.hid (t1.step S1_inv.ok ss (fun c h e => by unfold stateC at h; omega))
    have c2 : w.cell? ⟨w1.heap.size, 2, none⟩ = some (.int .i64 1) := by rw [cell_at h.rb.1]; rfl
    have z2 := frozen_at h.rb.1 2
    have RS : Hid ((w.setCell ⟨w1.heap.size, 2, none⟩ (.int .i64 2)).heap[w1.heap.size]? = some (.cells (req 2 1 ⟨#[47, 102]⟩) 41 (0, 0))) := Lib.hid (by simpa [req] using setCell_at h.rb.1 2 (.int .i64 2))
    have F2 := Lib.hid (h.fr.trans fs (fun j hj e => by omega))
    have ZA : Hid (Zero (w.setCell ⟨w1.heap.size, 2, none⟩ (.int .i64 2)) o g (.cells (X1.1.cells ev mv) 29 (0, 0))) := Lib.hid ⟨fs.block_of hg2.1 (by omega), hg2.2⟩
    have ZB : Hid (Zero (w.setCell ⟨w1.heap.size, 2, none⟩ (.int .i64 2)) o g' (.cells (rr.cells ev' mv') 29 (0, 0))) := Lib.hid ⟨fs.block_of hg2'.1 (by omega), hg2'.2⟩
    have FSS := Lib.hid ss.fresh
    have OLD := Lib.hid h.old
    have HSZ := Lib.hid (show w1.heap.size ≤ (w.setCell ⟨w1.heap.size, 2, none⟩ (.int .i64 2)).heap.size from F2.out.size)
    clear h hg2 hg2' t1 ss fs
    go_wp2_with (refine wpList_load_row rfl 41 (.tmp 2) rfl w1.heap.size rfl 41 _ (0, 0) _ RS.out Tryz.underlying41 rfl Tryz.size41 ?_)
    refine (request_ 2 1 _ _).mono ?_
    rintro e w3 ⟨rfl, f3⟩
    have T3 := TS.out.no S1_inv.ok FSS.out f3
    have FS3 : Fresh w3 o := (Step.no (C := fun _ => False) FSS.out f3).fresh
    have HT := Lib.hid (made2 o n1 2 2 L S1 w3 T3 S1_inv FS3 (by omega) (by simp [Bool.toNat] at hn1; omega))
    have ZA3 := Lib.hid (ZA.out.no f3)
    have ZB3 := Lib.hid (ZB.out.no f3)
    have F3 := Lib.hid (F2.out.trans f3 (fun _ _ e => e.elim))
    have OLD3 : Hid (∀ k, k < w1.heap.size → o k = o1 k) := OLD
    clear c2 z2 f3 T3 FS3 TS FSS RS HSZ
    generalize w.setCell ⟨w1.heap.size, 2, none⟩ (.int .i64 2) = ws at *
    unfold Made3 at HT
    unfold RepS.cells at HT ZA3 ZB3
    go_wp2_with fail
    with_reducible refine HT.out.mono ?_
    rintro e w4 ⟨x, o4, ev4, mv4, rfl, q1, q2, hd, s4, t4⟩
    have he7 := Lib.hid (did3 hd)
    obtain ⟨x1, x2⟩ := x
    dsimp only at he7
    have f5 : Fr No w4 ((w4.alloc (.cells (rep 0 0) 29)).setRow w4.heap.size (x1.cells ev4 mv4)) := Fr.setRow ((Fr.refl w4).alloc _) (.inr (Nat.le_refl _)) _
    have k5 := setRow_at (cs' := x1.cells ev4 mv4) (new_at w4 (.cells (rep 0 0) 29))
    have HOC := Lib.hid (RepS.cells_one (r := x1) q1 q2)
    have ca : ((w4.alloc (.cells (rep 0 0) 29)).setRow w4.heap.size (x1.cells ev4 mv4)).cell? ⟨g, 1, none⟩ = some (.int .i64 2) := by
      rw [cell_at (f5.block_of ((ZA3.out.step s4 (by unfold stateC; omega)).1) id)]
      show some (Value.int .i64 X1.1.ino) = _
      rw [X1_rep]
    have cb : ((w4.alloc (.cells (rep 0 0) 29)).setRow w4.heap.size (x1.cells ev4 mv4)).cell? ⟨g', 1, none⟩ = some (.int .i64 2) := by
      rw [cell_at (f5.block_of ((ZB3.out.step s4 (by unfold stateC; omega)).1) id)]
      show some (Value.int .i64 rr.ino) = _
      rw [hino]
    have cc : ((w4.alloc (.cells (rep 0 0) 29)).setRow w4.heap.size (x1.cells ev4 mv4)).cell? ⟨w4.heap.size, 0, none⟩ = some (.int .i64 7) := by
      rw [cell_at k5]
      show some (Value.int .i64 x1.e) = _
      rw [he7.out]
    have FZ : Hid (Fr No w0 ((w4.alloc (.cells (rep 0 0) 29)).setRow w4.heap.size (x1.cells ev4 mv4))) := Lib.hid (by
      have fa : Fr (fun k => stateC 0 (o1 k)) w1 w4 := F3.out.trans s4.fr (fun j hj e => by rw [OLD3.out j hj] at e; exact e)
      have fb := fa.trans f5 (fun _ _ e => e.elim)
      have hz : ∀ k, k < w0.heap.size → o1 k = 0 := fun k hk => SN.out.old k hk
      exact (SN.out.fr.mono (fun _ _ e => e) : Fr No w0 w1).trans fb (fun k hk e => by rw [hz k hk] at e; unfold stateC at e; omega))
    have KN := Lib.hid (new_at w4 (.cells (rep 0 0) 29))
    clear s4 t4 f5 k5 HT hd
    unfold rep RepS.cells at *
    go_wp2_with (refine wpList_store_row rfl 29 (.tmp 5) (.tmp 25) rfl w4.heap.size #[.int .i64 x1.e, .int .i64 x1.ino, .int .i64 x1.size, .int .i64 x1.handle, .int .i64 x1.swaps, .bool x1.dir, ev4, mv4] rfl rfl 29 _ KN.out Tryz.size29 rfl HOC.out ?_)
    go_ret
    exact ⟨rfl, FZ.out⟩
  case step =>
    clear hKK
    rintro n listed a w ⟨b0, b1, b2, b3, b4, b5, b6, b7, b8, b9, b10, b11, v3, v4, v12, v13, v14, v15, v16, v17, v18, v19, o, hn, rfl, rfl, h⟩ i hi
    have hr := mem_ready.1 hi
    clear hi
    obtain ⟨h0, o, ho, hd⟩ := hr
    match i, h0, ho, hd with

    | 0, h0, ho, hd =>
      obtain rfl : b0 = false := h0
      obtain rfl := Option.some.inj ho
      refine ⟨n - 1, by subst hn; simp [Bool.toNat] <;> omega, ?_⟩
      clear h0 ho hd
      refine wpOp_step rfl (fun K hK => ?_)
      rw [if_pos (show Region.wanted _ _ = true from rfl)]
      go_simp
      exact hK _ _ ⟨true, b1, b2, b3, b4, b5, b6, b7, b8, b9, b10, b11, v3, v4, .pointer (some ⟨L.s, 0, none⟩), v13, v14, v15, v16, v17, v18, v19, o, by subst hn; simp [Bool.toNat] <;> omega, rfl, rfl, { h with m0 := fun _ => rfl }⟩
    | 1, h0, ho, hd =>
      obtain rfl : b1 = false := h0
      obtain rfl := Option.some.inj ho
      refine ⟨n - 1, by subst hn; simp [Bool.toNat] <;> omega, ?_⟩
      clear h0 ho hd
      refine wpOp_step rfl (fun K hK => ?_)
      rw [if_pos (show Region.wanted _ _ = true from rfl)]
      refine wp_load_row 41 (.tmp 2) rfl w1.heap.size rfl 41 _ (0, 0) _ h.rb.1 Tryz.underlying41 rfl Tryz.size41 ?_
      exact hK _ _ ⟨b0, true, b2, b3, b4, b5, b6, b7, b8, b9, b10, b11, v3, v4, v12, .agg (req 1 1 ⟨#[47, 102]⟩), v14, v15, v16, v17, v18, v19, o, by subst hn; simp [Bool.toNat] <;> omega, rfl, rfl, { h with m1 := fun _ => rfl }⟩
    | 2, h0, ho, hd =>
      obtain rfl : b2 = false := h0
      obtain rfl := Option.some.inj ho
      have d1 : b1 = true := hd ⟨1, Ground.data⟩ (by simp) rfl
      refine ⟨n - 1, by subst hn; simp [Bool.toNat] <;> omega, ?_⟩
      clear h0 ho hd
      refine wpOp_step rfl (fun K hK => ?_)
      rw [if_pos (show Region.wanted _ _ = true from rfl)]
      obtain rfl := h.m1 d1
      go_simp
      refine (request_ 1 1 _ w).mono ?_
      rintro e w' ⟨rfl, f⟩
      have h' := h.no f
      exact hK _ _ ⟨_, _, true, _, _, _, _, _, _, _, _, _, _, _, _, _, .agg (req 1 1 ⟨#[47, 102]⟩), _, _, _, _, _, o, by subst hn; simp [Bool.toNat] <;> omega, rfl, rfl, { h' with m2 := fun _ => rfl }⟩
    | 3, h0, ho, hd =>
      obtain rfl : b3 = false := h0
      obtain rfl := Option.some.inj ho
      have d0 : b0 = true := hd ⟨0, Ground.data⟩ (by simp) rfl
      have d2 : b2 = true := hd ⟨2, Ground.data⟩ (by simp) rfl
      refine ⟨n - 1, by subst hn; simp [Bool.toNat] <;> omega, ?_⟩
      clear h0 ho hd
      refine wpOp_step rfl (fun K hK => ?_)
      rw [if_pos (show Region.wanted _ _ = true from rfl)]
      obtain rfl := h.m0 d0
      obtain rfl := h.m2 d2
      go_simp
      refine (made2 o 0 0 1 L S0 w (h.s0 rfl) S0_inv h.fs (by omega) (by omega)).mono ?_
      rintro e w' ⟨x, o', ev, mv, rfl, q1, q2, hd, s, t⟩
      obtain rfl := did1 hd
      have hz : ∀ b x, Zero w o b x → Zero w' o' b x := fun b x z => z.step s (by unfold stateC; omega)
      exact hK _ _ ⟨_, _, _, true, _, _, _, _, _, _, _, _, _, _, _, _, _, .agg (X1.1.cells ev mv), _, _, _, _, o', by subst hn; simp [Bool.toNat] <;> omega, rfl, rfl, { h with fr := h.fr.trans s.fr (fun j hj e => by rw [h.old j hj] at e; exact e), old := fun k hk => (s.old k (Nat.lt_of_lt_of_le hk h.fr.size)).trans (h.old k hk), fs := s.fresh, rb := hz _ _ h.rb, m3 := fun _ => ⟨ev, mv, rfl, q1, q2⟩, o3 := fun _ => rfl, s0 := fun e => (by cases e), s1 := fun _ => ⟨100, by omega, t⟩, g8 := fun e => by (obtain ⟨g, cs, e1, e2, e3, e5, e6⟩ := h.g8 e; exact ⟨g, cs, e1, e2, hz _ _ e3, e5, fun e => nomatch h.o3 e⟩), g9 := fun e => by (obtain ⟨g, cs, e1, e2, e3, e5, e6⟩ := h.g9 e; exact ⟨g, cs, e1, e2, hz _ _ e3, e5, e6⟩), o6 := fun _ => rfl, o73 := fun _ => rfl }⟩
    | 4, h0, ho, hd =>
      obtain rfl : b4 = false := h0
      obtain rfl := Option.some.inj ho
      refine ⟨n - 1, by subst hn; simp [Bool.toNat] <;> omega, ?_⟩
      clear h0 ho hd
      refine wpOp_step rfl (fun K hK => ?_)
      rw [if_pos (show Region.wanted _ _ = true from rfl)]
      go_simp
      exact hK _ _ ⟨b0, b1, b2, b3, true, b5, b6, b7, b8, b9, b10, b11, v3, v4, v12, v13, v14, v15, .pointer (some ⟨L.s, 0, none⟩), v17, v18, v19, o, by subst hn; simp [Bool.toNat] <;> omega, rfl, rfl, { h with m4 := fun _ => rfl }⟩
    | 5, h0, ho, hd =>
      obtain rfl : b5 = false := h0
      obtain rfl := Option.some.inj ho
      refine ⟨n - 1, by subst hn; simp [Bool.toNat] <;> omega, ?_⟩
      clear h0 ho hd
      refine wpOp_step rfl (fun K hK => ?_)
      rw [if_pos (show Region.wanted _ _ = true from rfl)]
      refine wp_load_row 41 (.tmp 2) rfl w1.heap.size rfl 41 _ (0, 0) _ h.rb.1 Tryz.underlying41 rfl Tryz.size41 ?_
      exact hK _ _ ⟨b0, b1, b2, b3, b4, true, b6, b7, b8, b9, b10, b11, v3, v4, v12, v13, v14, v15, v16, .agg (req 1 1 ⟨#[47, 102]⟩), v18, v19, o, by subst hn; simp [Bool.toNat] <;> omega, rfl, rfl, { h with m5 := fun _ => rfl }⟩
    | 6, h0, ho, hd =>
      obtain rfl : b6 = false := h0
      obtain rfl := Option.some.inj ho
      have d5 : b5 = true := hd ⟨5, Ground.data⟩ (by simp) rfl
      have d3 : b3 = true := hd ⟨3, Ground.chain⟩ (by simp) rfl
      refine ⟨n - 1, by subst hn; simp [Bool.toNat] <;> omega, ?_⟩
      clear h0 ho hd
      refine wpOp_step rfl (fun K hK => ?_)
      rw [if_pos (show Region.wanted _ _ = true from rfl)]
      obtain rfl := h.m5 d5
      go_simp
      refine (request_ 1 1 _ w).mono ?_
      rintro e w' ⟨rfl, f⟩
      have h' := h.no f
      exact hK _ _ ⟨_, _, _, _, _, _, true, _, _, _, _, _, _, _, _, _, _, _, _, _, .agg (req 1 1 ⟨#[47, 102]⟩), _, o, by subst hn; simp [Bool.toNat] <;> omega, rfl, rfl, { h' with m6 := fun _ => rfl, o6 := fun _ => d3 }⟩
    | 7, h0, ho, hd =>
      obtain rfl : b7 = false := h0
      obtain rfl := Option.some.inj ho
      have d4 : b4 = true := hd ⟨4, Ground.data⟩ (by simp) rfl
      have d6 : b6 = true := hd ⟨6, Ground.data⟩ (by simp) rfl
      refine ⟨n - 1, by subst hn; simp [Bool.toNat] <;> omega, ?_⟩
      clear h0 ho hd
      refine wpOp_step rfl (fun K hK => ?_)
      rw [if_pos (show Region.wanted _ _ = true from rfl)]
      obtain rfl : b3 = true := h.o6 d6
      obtain rfl := h.m4 d4
      obtain rfl := h.m6 d6
      obtain ⟨n1, hn1, t1⟩ := h.s1 rfl
      go_simp
      refine (made2 o n1 2 1 L S1 w t1 S1_inv h.fs (by omega) (by simp [Bool.toNat] at hn1; omega)).mono ?_
      rintro e w' ⟨x, o', ev, mv, rfl, q1, q2, hd, s, t⟩
      obtain ⟨hS, hino⟩ := did2 hd
      rw [hS] at t
      have hz : ∀ b x, Zero w o b x → Zero w' o' b x := fun b x z => z.step s (by unfold stateC; omega)
      exact hK _ _ ⟨_, _, _, _, _, _, _, true, _, _, _, _, _, _, _, _, _, _, _, _, _, .agg (x.1.cells ev mv), o', by subst hn; simp [Bool.toNat] <;> omega, rfl, rfl, { h with fr := h.fr.trans s.fr (fun j hj e => by rw [h.old j hj] at e; exact e), old := fun k hk => (s.old k (Nat.lt_of_lt_of_le hk h.fr.size)).trans (h.old k hk), fs := s.fresh, rb := hz _ _ h.rb, s0 := fun e => (by cases e), s1 := fun _ => ⟨n1 + 100, by simp [Bool.toNat] at hn1 ⊢; omega, t⟩, o7 := fun _ => rfl, m7 := fun _ => ⟨x.1, ev, mv, rfl, hino, q1, q2⟩, g8 := fun e => by (obtain ⟨g, cs, e1, e2, e3, e5, e6⟩ := h.g8 e; exact ⟨g, cs, e1, e2, hz _ _ e3, e5, e6⟩), g9 := fun e => by (obtain ⟨g, cs, e1, e2, e3, e5, e6⟩ := h.g9 e; exact ⟨g, cs, e1, e2, hz _ _ e3, e5, fun e => nomatch h.o7 e⟩), o73 := fun _ => rfl }⟩
    | 8, h0, ho, hd =>
      obtain rfl : b8 = false := h0
      obtain rfl := Option.some.inj ho
      refine ⟨n - 1, by subst hn; simp [Bool.toNat] <;> omega, ?_⟩
      clear h0 ho hd
      refine wpOp_step rfl (fun K hK => ?_)
      rw [if_pos (show Region.wanted _ _ = true from rfl)]
      go_simp
      have f : Fr No w (w.alloc (.cells (rep 0 0) 29)) := (Fr.refl w).alloc _
      have h' := h.no f
      exact hK _ _ ⟨_, _, _, _, _, _, _, _, true, _, _, _, .pointer (some ⟨w.heap.size, 0, none⟩), _, _, _, _, _, _, _, _, _, o, by subst hn; simp [Bool.toNat] <;> omega, rfl, rfl, { h' with g8 := fun _ => ⟨w.heap.size, rep 0 0, rfl, lt_of_block h.rb.1, ⟨new_at w _, h.fs _ (Nat.le_refl _)⟩, rfl, fun e => nomatch h.o10 e⟩, ne := fun _ e => by (obtain ⟨g, cs, e1, e2, e3, _⟩ := h.g9 e; have := lt_of_block e3.1; intro e'; rw [e1] at e'; simp at e' <;> omega), o10 := fun _ => rfl }⟩
    | 9, h0, ho, hd =>
      obtain rfl : b9 = false := h0
      obtain rfl := Option.some.inj ho
      refine ⟨n - 1, by subst hn; simp [Bool.toNat] <;> omega, ?_⟩
      clear h0 ho hd
      refine wpOp_step rfl (fun K hK => ?_)
      rw [if_pos (show Region.wanted _ _ = true from rfl)]
      go_simp
      have f : Fr No w (w.alloc (.cells (rep 0 0) 29)) := (Fr.refl w).alloc _
      have h' := h.no f
      exact hK _ _ ⟨_, _, _, _, _, _, _, _, _, true, _, _, _, .pointer (some ⟨w.heap.size, 0, none⟩), _, _, _, _, _, _, _, _, o, by subst hn; simp [Bool.toNat] <;> omega, rfl, rfl, { h' with g9 := fun _ => ⟨w.heap.size, rep 0 0, rfl, lt_of_block h.rb.1, ⟨new_at w _, h.fs _ (Nat.le_refl _)⟩, rfl, fun e => nomatch h.o11 e⟩, ne := fun e _ => by (obtain ⟨g, cs, e1, e2, e3, _⟩ := h.g8 e; have := lt_of_block e3.1; intro e'; rw [e1] at e'; simp at e' <;> omega), o11 := fun _ => rfl }⟩
    | 10, h0, ho, hd =>
      obtain rfl : b10 = false := h0
      obtain rfl := Option.some.inj ho
      have d8 : b8 = true := hd ⟨8, Ground.data⟩ (by simp) rfl
      have d3 : b3 = true := hd ⟨3, Ground.data⟩ (by simp) rfl
      have d9 : b9 = true := hd ⟨9, Ground.phase⟩ (by simp) rfl
      have d7 : b7 = true := hd ⟨7, Ground.chain⟩ (by simp) rfl
      refine ⟨n - 1, by subst hn; simp [Bool.toNat] <;> omega, ?_⟩
      clear h0 ho hd
      refine wpOp_step rfl (fun K hK => ?_)
      rw [if_pos (show Region.wanted _ _ = true from rfl)]
      obtain rfl := d3
      obtain ⟨ev, mv, rfl, ho1, ho2⟩ := h.m3 rfl
      obtain ⟨g, cs, rfl, hlt, hg, hz8, _⟩ := h.g8 d8
      have f : Fr (fun k => k = g) w (w.setRow g (X1.1.cells ev mv)) := Fr.setRow (S := fun k => k = g) (Fr.refl w) (.inl rfl) _
      have s : Step (fun c => c = 0) w o (w.setRow g (X1.1.cells ev mv)) o := ⟨f.mono (fun k _ e => by rw [e]; exact hg.2), fun _ _ => rfl, fun k hk => h.fs k (Nat.le_trans f.size hk)⟩
      have hzo : ∀ b x, b ≠ g → Zero w o b x → Zero (w.setRow g (X1.1.cells ev mv)) o b x := fun b x hb z => ⟨f.block_of z.1 hb, z.2⟩
      have q1 := h.fr.trans f (fun j hj e => by omega)
      have q2 := hzo _ _ (by omega) h.rb
      obtain ⟨n1, hn1, t1⟩ := h.s1 rfl
      have t2 := t1.step S1_inv.ok s (fun c h e => by unfold stateC at h; omega)
      refine wp_store_row 29 (.tmp 3) (.tmp 15) rfl g (X1.1.cells ev mv) rfl rfl 29 cs hg.1 Tryz.size29 (by simp [RepS.cells, hz8]) (RepS.cells_one ho1 ho2) ?_
      exact hK _ _ ⟨_, _, _, _, _, _, _, _, _, _, true, _, _, _, _, _, _, _, _, _, _, _, o, by subst hn; simp [Bool.toNat] <;> omega, rfl, rfl, { h with fr := q1, fs := s.fresh, rb := q2, s0 := fun e => (by cases e), s1 := fun _ => ⟨n1, hn1, t2⟩, g8 := fun _ => ⟨g, X1.1.cells ev mv, rfl, hlt, ⟨setRow_at hg.1, hg.2⟩, rfl, fun _ => rfl⟩, g9 := fun e => by (obtain ⟨g', cs', rfl, e2, e3, e4⟩ := h.g9 e; have := h.ne d8 e; exact ⟨g', cs', rfl, e2, hzo _ _ (by intro e'; rw [e'] at this; exact this rfl) e3, e4⟩), o10 := fun _ => d8, o3 := fun _ => rfl }⟩
    | 11, h0, ho, hd =>
      obtain rfl : b11 = false := h0
      obtain rfl := Option.some.inj ho
      have d9 : b9 = true := hd ⟨9, Ground.data⟩ (by simp) rfl
      have d7 : b7 = true := hd ⟨7, Ground.data⟩ (by simp) rfl
      have d10 : b10 = true := hd ⟨10, Ground.chain⟩ (by simp) rfl
      have d3 : b3 = true := hd ⟨3, Ground.phase⟩ (by simp) rfl
      refine ⟨n - 1, by subst hn; simp [Bool.toNat] <;> omega, ?_⟩
      clear h0 ho hd
      refine wpOp_step rfl (fun K hK => ?_)
      rw [if_pos (show Region.wanted _ _ = true from rfl)]
      obtain rfl := d3
      obtain ⟨rr, ev, mv, rfl, hino, ho1, ho2⟩ := h.m7 d7
      obtain ⟨g, cs, rfl, hlt, hg, hz8, _⟩ := h.g9 d9
      have f : Fr (fun k => k = g) w (w.setRow g (rr.cells ev mv)) := Fr.setRow (S := fun k => k = g) (Fr.refl w) (.inl rfl) _
      have s : Step (fun c => c = 0) w o (w.setRow g (rr.cells ev mv)) o := ⟨f.mono (fun k _ e => by rw [e]; exact hg.2), fun _ _ => rfl, fun k hk => h.fs k (Nat.le_trans f.size hk)⟩
      have hzo : ∀ b x, b ≠ g → Zero w o b x → Zero (w.setRow g (rr.cells ev mv)) o b x := fun b x hb z => ⟨f.block_of z.1 hb, z.2⟩
      have q1 := h.fr.trans f (fun j hj e => by omega)
      have q2 := hzo _ _ (by omega) h.rb
      obtain ⟨n1, hn1, t1⟩ := h.s1 rfl
      have t2 := t1.step S1_inv.ok s (fun c h e => by unfold stateC at h; omega)
      refine wp_store_row 29 (.tmp 4) (.tmp 19) rfl g (rr.cells ev mv) rfl rfl 29 cs hg.1 Tryz.size29 (by simp [RepS.cells, hz8]) (RepS.cells_one ho1 ho2) ?_
      exact hK _ _ ⟨_, _, _, _, _, _, _, _, _, _, _, true, _, _, _, _, _, _, _, _, _, _, o, by subst hn; simp [Bool.toNat] <;> omega, rfl, rfl, { h with fr := q1, fs := s.fresh, rb := q2, s0 := fun e => (by cases e), s1 := fun _ => ⟨n1, hn1, t2⟩, g9 := fun _ => ⟨g, rr.cells ev mv, rfl, hlt, ⟨setRow_at hg.1, hg.2⟩, rfl, fun _ => rfl⟩, g8 := fun e => by (obtain ⟨g', cs', rfl, e2, e3, e4⟩ := h.g8 e; have := h.ne e d9; exact ⟨g', cs', rfl, e2, hzo _ _ (by intro e'; rw [e'] at this; exact this rfl) e3, e4⟩), o11 := fun _ => d9, o7 := fun _ => d7 }⟩
    | k + 12, h0, ho, hd => exact absurd ho (by simp)
def GoodRqs (L : List Rq) : Prop := ∀ y ∈ L, ∀ s ∈ y.2.1, stpGood s.1
theorem fresh0 (w : World) : Fresh w (fun _ => 0) := fun _ _ => rfl
def Lies (w : World) (o : Nat → Nat) (L : Plc) (j : Nat) (p : St → Prop) (w' : World) : Prop :=
  ∃ o' S, Step (stateC 0) w o w' o' ∧ StateAt w' o' 0 L S (100 * j) ∧ StInv S (2 * j) ∧ p S
def Went (w : World) (o : Nat → Nat) (L : Plc) (S : St) (n q : Nat) (r : Req) (st : List Sz) (dl : List Dl) (e : Ending) (w' : World) : Prop :=
  ∃ (x : RepS × St) (o' : Nat → Nat) (ev mv : Value), e = .returned (.agg (x.1.cells ev mv)) ∧ Did S r st dl x ∧ StInv x.2 (q + 2) ∧ Step (stateC 0) w o w' o' ∧ StateAt w' o' 0 L x.2 (n + 100)
theorem went (o : Nat → Nat) (n q : Nat) (L : Plc) (S : St) (r : Req) (rv dv : Value) (st : List Sz) (dl : List Dl) (w : World) (h : StateAt w o 0 L S n) (inv : StInv S q) (hf : Fresh w o) (hr : RowsAt szC 4 w o rv st) (hd : RowsAt dlC 14 w o dv dl) (hs : smallR r st.length dl.length) (hg : ∀ s ∈ st, stpGood s.1) (hq : q ≤ 90000) (hn : n ≤ 400000) :
    Calls Tryz.prog 15 #[.pointer (some ⟨L.s, 0, none⟩), .agg (r.cells rv dv)] w (Went w o L S n q r st dl) :=
  (gapply_ o 0 n q L S r rv dv st dl w h inv hf hr hd ⟨hs.1, hs.2.1, hs.2.2.1, hs.2.2.2, hg⟩ hq hn).mono (fun e w' p => by
    obtain ⟨x, h1, h2, ⟨o', s, t⟩, ev, mv, he, _, _⟩ := p
    exact ⟨x, o', ev, mv, he, h1, h2, s, t⟩)
theorem Lies.fr {w w' w0 : World} {o : Nat → Nat} {L : Plc} {j : Nat} {p : St → Prop} (h : Lies w o L j p w') (f : Fr No w0 w) (h0 : ∀ k, k < w0.heap.size → o k = 0) : Fr No w0 w' := by
  obtain ⟨_, _, s, _⟩ := h
  exact f.trans s.fr (fun k hk e => by
    rw [h0 k hk] at e
    unfold stateC at e
    omega)
set_option maxHeartbeats 6400000 in
theorem stateWaste_ (v1 v2 : Value) (L1 L2 : List Rq) (x : Stp) (w : World) (h1 : RqsAt w (fun _ => 0) v1 L1) (h2 : RqsAt w (fun _ => 0) v2 L2) (g1 : GoodRqs L1) (g2 : GoodRqs L2) (hx : stpGood x) :
    Calls Tryz.prog 4 #[v1, v2, stpV x] w fun e w' => e = .returned (.bool true) ∧ Fr No w w' := by
  obtain ⟨base1, cap1, rfl⟩ := h1.slice
  obtain ⟨base2, cap2, rfl⟩ := h2.slice
  generalize hQ : (fun (e : Ending) (w' : World) => e = .returned (.bool true) ∧ Fr No w w') = Q
  have HQ : Hid (∀ w', Fr No w w' → Q (.returned (.bool true)) w') := Lib.hid (fun w' f => by rw [← hQ]; exact ⟨rfl, f⟩)
  clear hQ
  have fX : Fr No w (w.alloc (.cells #[.int .i64 x.1, .int .i64 x.2.1, .int .i64 x.2.2] 46)) := (Fr.refl w).alloc _
  have kX := new_at w (.cells #[.int .i64 x.1, .int .i64 x.2.1, .int .i64 x.2.2] 46)
  have FX := Lib.hid fX
  have KX := Lib.hid kX
  have H1 := Lib.hid (h1.no (fresh0 w) fX)
  have H2 := Lib.hid (h2.no (fresh0 w) fX)
  have G1 := Lib.hid g1
  have G2 := Lib.hid g2
  have HX := Lib.hid hx
  clear h1 h2 g1 g2 hx fX kX
  unfold stpV
  go_enter Tryz.func4, Tryz.ntmps4
  go_wp2_with fail
  refine (gawake_ _).mono ?_
  rintro e w1 ⟨rfl, f1⟩
  have F1 := Lib.hid (FX.out.trans f1 (fun _ _ e => e))
  have KX1 := Lib.hid (f1.block_of KX.out id)
  have H11 := Lib.hid (H1.out.no (fresh0 _) f1)
  have H21 := Lib.hid (H2.out.no (fresh0 _) f1)
  clear f1 KX H1 H2 FX
  generalize hb0 : w.heap.size = b0 at *
  have HA1 := Lib.hid (gasks_ (fun _ => 0) _ L1 60 w1 (fresh0 w1) H11.out (by omega))
  unfold BoolPost at HA1
  cases hA : decide (L1.length ≤ 60 ∧ ∀ y ∈ L1, smallY y) with
  | false =>
    rw [hA] at HA1
    clear hA
    go_wp2_with fail
    refine HA1.out.mono ?_
    rintro e w2 ⟨rfl, f2⟩
    have F2 := Lib.hid (F1.out.trans f2 (fun _ _ e => e))
    clear f2
    go_wp2_with fail
    exact HQ.out _ F2.out
  | true =>
    rw [hA] at HA1
    have SM1 := Lib.hid (of_decide_eq_true hA)
    clear hA
    go_wp2_with fail
    refine HA1.out.mono ?_
    rintro e w2 ⟨rfl, f2⟩
    have F2 := Lib.hid (F1.out.trans f2 (fun _ _ e => e))
    have KX2 := Lib.hid (f2.block_of KX1.out id)
    have H12 := Lib.hid (H11.out.no (fresh0 _) f2)
    have H22 := Lib.hid (H21.out.no (fresh0 _) f2)
    clear f2 KX1 H11 H21 F1 HA1
    have HA2 := Lib.hid (gasks_ (fun _ => 0) _ L2 60 w2 (fresh0 w2) H22.out (by omega))
    unfold BoolPost at HA2
    cases hA : decide (L2.length ≤ 60 ∧ ∀ y ∈ L2, smallY y) with
    | false =>
      rw [hA] at HA2
      clear hA
      go_wp2_with fail
      refine HA2.out.mono ?_
      rintro e w3 ⟨rfl, f3⟩
      have F3 := Lib.hid (F2.out.trans f3 (fun _ _ e => e))
      clear f3
      go_wp2_with fail
      exact HQ.out _ F3.out
    | true =>
      rw [hA] at HA2
      have SM2 := Lib.hid (of_decide_eq_true hA)
      clear hA
      go_wp2_with fail
      refine HA2.out.mono ?_
      rintro e w3 ⟨rfl, f3⟩
      have F3 := Lib.hid (F2.out.trans f3 (fun _ _ e => e))
      have KX3 := Lib.hid (f3.block_of KX2.out id)
      have H13 := Lib.hid (H12.out.no (fresh0 _) f3)
      have H23 := Lib.hid (H22.out.no (fresh0 _) f3)
      clear f3 KX2 H12 H22 F2 HA2
      go_wp2_with fail
      refine (gstate_new _).mono ?_
      rintro e w4 ⟨L, o4, rfl, s4, t4⟩
      have hle : ∀ k, k < w3.heap.size → o4 k = 0 := fun k hk => s4.old k hk
      have F4 := Lib.hid (F3.out.trans (s4.fr.mono (fun _ _ e => e)) (fun _ _ e => e.elim))
      have HLE : Hid (∀ k, k < w.heap.size → o4 k = 0) := Lib.hid (fun k hk => hle k (Nat.lt_of_lt_of_le hk F3.out.size))
      have ZX : Hid (Zero w4 o4 b0 (.cells #[.int .i64 x.1, .int .i64 x.2.1, .int .i64 x.2.2] 46 (0, 0))) := Lib.hid ⟨s4.block KX3.out id, hle _ (lt_of_block KX3.out)⟩
      have H14 := Lib.hid (H13.out.step s4 id)
      have H24 := Lib.hid (H23.out.step s4 id)
      have LI0 : Hid (Lies w4 o4 L 0 (fun _ => True) w4) := Lib.hid ⟨o4, S0, Step.refl s4.fresh, t4, S0_inv, trivial⟩
      have nos : ¬ stateC 0 0 := by unfold stateC; omega
      have NOS := Lib.hid nos
      clear hle s4 t4 KX3 H13 H23 F3 nos
      go_wp2_with fail
      go_loopw [8] (fun a wr => ∃ j : Nat, a = .int .i64 j ∧ j ≤ L1.length ∧ Hid (Lies w4 o4 L j (fun _ => True) wr)) (fun a _ => L1.length - (intOf a).toNat)
      case atStart => exact ⟨0, rfl, Nat.zero_le _, LI0⟩
      case round =>
        obtain ⟨j, rfl, hj, HLI⟩ := hrel
        obtain ⟨oj, S, sj, tj, ij, _⟩ := HLI.out
        have SJ := Lib.hid sj
        have TJ := Lib.hid tj
        have IJ := Lib.hid ij
        have hl60 := SM1.out.1
        clear sj tj ij
        by_cases hlt : j < L1.length
        · have hne : L1 ≠ [] := by
            intro e
            subst e
            simp at hlt
          obtain ⟨b, off, rfl, ho, hbl, hrows⟩ := (H14.out.step SJ.out NOS.out).at hne
          obtain ⟨rv, dv, hr1, hr2, hr3⟩ := hrows j L1[j] (List.getElem?_eq_getElem hlt)
          have HSM := Lib.hid (SM1.out.2 L1[j] (List.getElem_mem hlt))
          have HGD := Lib.hid (G1.out L1[j] (List.getElem_mem hlt))
          have q1 : (j : Int) < (L1.length : Int) := by omega
          have q3 : (0 : Int) ≤ (j : Int) := by omega
          generalize L1[j] = y at *
          obtain ⟨r, st, dl⟩ := y
          dsimp only at hr1 hr2 hr3 HGD
          unfold smallY at HSM
          dsimp only at HSM
          obtain ⟨bs, cs, rfl⟩ := hr2.slice
          obtain ⟨bd, cd, rfl⟩ := hr3.slice
          have HR1 := Lib.hid hr1
          have HR3 := Lib.hid hr3
          have HRQ := Lib.hid (grequest_ oj r (.slice bs st.length cs) (.slice bd dl.length cd) st wr SJ.out.fresh hr2 ⟨_, _, _, rfl⟩ (by have := HSM.out.2.2.1; omega))
          unfold ReqPost at HRQ
          unfold Req.cells at HR1 HRQ
          clear hrows ho hbl hr1 hr2 hr3
          go_wp2_with (refine wpList_load_mid (by rfl) 41 _ (by rfl) b (off + j * 14) (by rfl) [.int .i64 r.c, .int .i64 r.l, .int .i64 r.q, .int .i64 r.kind, .string (ba r.path), .string (ba r.to), .bool r.dir, .bool r.wr, .bool r.cl, .int .i64 r.h, .int .i64 r.nx, .int .i64 r.sw, .slice bs st.length cs, .slice bd dl.length cd] _ HR1.out Tryz.underlying41 rfl Tryz.size41 ?_)
          refine HRQ.out.mono ?_
          rintro e wq ⟨rv', rfl, hrq, fq⟩
          have TQ := TJ.out.no IJ.out.ok SJ.out.fresh fq
          have FQ : Fresh wq oj := (Step.no (C := fun _ => False) SJ.out.fresh fq).fresh
          have SQ : Hid (Step (stateC 0) w4 o4 wq oj) := Lib.hid (SJ.out.trans ((Step.no (C := fun _ => False) SJ.out.fresh fq).mono (fun _ e => e.elim)) (fun _ e => e))
          have HW := Lib.hid (went oj (100 * j) (2 * j) L S r rv' _ st dl wq TQ IJ.out FQ hrq (HR3.out.no SJ.out.fresh fq) HSM.out HGD.out (by omega) (by omega))
          unfold Went at HW
          unfold Req.cells at HW
          clear TQ FQ hrq fq
          go_wp2_with fail
          refine HW.out.mono ?_
          rintro e w5 ⟨x5, o5, ev, mv, rfl, d5, i5, s5, t5⟩
          have L5 : Hid (Lies w4 o4 L (j + 1) (fun _ => True) w5) := Lib.hid ⟨o5, x5.2, SQ.out.trans s5 (fun _ e => e), t5, i5, trivial⟩
          clear d5 i5 s5 t5
          go_wp2_with fail
          go_roundw
          case rel => exact ⟨j + 1, by go_num, hlt, L5⟩
          case measure => simp [intOf]; omega
        · have q1 : ¬ (j : Int) < (L1.length : Int) := by omega
          obtain ⟨wb, rfl⟩ : ∃ wb : World, wb = wr := ⟨_, rfl⟩
          have ZXb := Lib.hid (ZX.out.step SJ.out NOS.out)
          have HWA := Lib.hid (gwaste_ oj 0 (100 * j) L S x wb TJ.out IJ.out.ok SJ.out.fresh HX.out)
          have FB := Lib.hid (HLI.out.fr F4.out HLE.out)
          unfold BoolPost stpV at HWA
          cases hw : decide (wasteS S x) with
          | false =>
            rw [hw] at HWA
            clear hw
            go_wp2_with (refine wpList_load_row rfl 46 (.tmp 5) rfl b0 rfl 46 _ (0, 0) _ ZXb.out.1 Tryz.underlying46 rfl Tryz.size46 ?_)
            refine HWA.out.mono ?_
            rintro e w5 ⟨rfl, f5⟩
            have F5 := Lib.hid (FB.out.trans f5 (fun _ _ e => e))
            clear f5
            go_wp2_with fail
            exact HQ.out _ F5.out
          | true =>
            rw [hw] at HWA
            have HWS := Lib.hid (of_decide_eq_true hw)
            clear hw
            go_wp2_with (refine wpList_load_row rfl 46 (.tmp 5) rfl b0 rfl 46 _ (0, 0) _ ZXb.out.1 Tryz.underlying46 rfl Tryz.size46 ?_)
            refine HWA.out.mono ?_
            rintro e w5 ⟨rfl, f5⟩
            have S5 : Hid (Step (stateC 0) w4 o4 w5 oj) := Lib.hid (SJ.out.trans ((Step.no (C := fun _ => False) SJ.out.fresh f5).mono (fun _ e => e.elim)) (fun _ e => e))
            have LJ0 : Hid (Lies w4 o4 L (j + 0) (fun T => wasteS T x) w5) := Lib.hid ⟨oj, S, S5.out, TJ.out.no IJ.out.ok SJ.out.fresh f5, IJ.out, HWS.out⟩
            have hj60 : j ≤ 60 := by omega
            clear f5 S5 HWS HWA FB ZXb HLI SJ TJ IJ
            go_wp2_with fail
            go_loopw [9] (fun a wr => ∃ i : Nat, a = .int .i64 i ∧ i ≤ L2.length ∧ Hid (Lies w4 o4 L (j + i) (fun T => wasteS T x) wr)) (fun a _ => L2.length - (intOf a).toNat)
            case atStart => exact ⟨0, rfl, Nat.zero_le _, LJ0⟩
            case round =>
              obtain ⟨i, rfl, hi, HLI⟩ := hrel
              obtain ⟨oj, S, sj, tj, ij, wj⟩ := HLI.out
              have SJ := Lib.hid sj
              have TJ := Lib.hid tj
              have IJ := Lib.hid ij
              have WJ := Lib.hid wj
              have hl60 := SM2.out.1
              clear sj tj ij wj
              by_cases hlt : i < L2.length
              · have hne : L2 ≠ [] := by
                  intro e
                  subst e
                  simp at hlt
                obtain ⟨b, off, rfl, ho, hbl, hrows⟩ := (H24.out.step SJ.out NOS.out).at hne
                obtain ⟨rv, dv, hr1, hr2, hr3⟩ := hrows i L2[i] (List.getElem?_eq_getElem hlt)
                have HSM := Lib.hid (SM2.out.2 L2[i] (List.getElem_mem hlt))
                have HGD := Lib.hid (G2.out L2[i] (List.getElem_mem hlt))
                have q1 : (i : Int) < (L2.length : Int) := by omega
                have q3 : (0 : Int) ≤ (i : Int) := by omega
                generalize L2[i] = y at *
                obtain ⟨r, st, dl⟩ := y
                dsimp only at hr1 hr2 hr3 HGD
                unfold smallY at HSM
                dsimp only at HSM
                obtain ⟨bs, cs, rfl⟩ := hr2.slice
                obtain ⟨bd, cd, rfl⟩ := hr3.slice
                have HR1 := Lib.hid hr1
                have HR3 := Lib.hid hr3
                have HRQ := Lib.hid (grequest_ oj r (.slice bs st.length cs) (.slice bd dl.length cd) st wr SJ.out.fresh hr2 ⟨_, _, _, rfl⟩ (by have := HSM.out.2.2.1; omega))
                unfold ReqPost at HRQ
                unfold Req.cells at HR1 HRQ
                clear hrows ho hbl hr1 hr2 hr3
                go_wp2_with (refine wpList_load_mid (by rfl) 41 _ (by rfl) b (off + i * 14) (by rfl) [.int .i64 r.c, .int .i64 r.l, .int .i64 r.q, .int .i64 r.kind, .string (ba r.path), .string (ba r.to), .bool r.dir, .bool r.wr, .bool r.cl, .int .i64 r.h, .int .i64 r.nx, .int .i64 r.sw, .slice bs st.length cs, .slice bd dl.length cd] _ HR1.out Tryz.underlying41 rfl Tryz.size41 ?_)
                refine HRQ.out.mono ?_
                rintro e wq ⟨rv', rfl, hrq, fq⟩
                have TQ := TJ.out.no IJ.out.ok SJ.out.fresh fq
                have FQ : Fresh wq oj := (Step.no (C := fun _ => False) SJ.out.fresh fq).fresh
                have SQ : Hid (Step (stateC 0) w4 o4 wq oj) := Lib.hid (SJ.out.trans ((Step.no (C := fun _ => False) SJ.out.fresh fq).mono (fun _ e => e.elim)) (fun _ e => e))
                have HW := Lib.hid (went oj (100 * (j + i)) (2 * (j + i)) L S r rv' _ st dl wq TQ IJ.out FQ hrq (HR3.out.no SJ.out.fresh fq) HSM.out HGD.out (by omega) (by omega))
                unfold Went at HW
                unfold Req.cells at HW
                clear TQ FQ hrq fq
                go_wp2_with fail
                refine HW.out.mono ?_
                rintro e w5 ⟨x5, o5, ev, mv, rfl, d5, i5, s5, t5⟩
                have HW5 := Lib.hid (waste_keeps IJ.out d5 WJ.out)
                have S5 := Lib.hid (SQ.out.trans s5 (fun _ e => e))
                have T5 := Lib.hid t5
                have I5 := Lib.hid i5
                have ZX5 := Lib.hid (ZX.out.step S5.out NOS.out)
                have HH5 := Lib.hid (holds_ o5 0 _ L x5.2 x w5 t5 i5.ok s5.fresh HX.out)
                rw [HW5.out.2.2.1] at HH5
                unfold stpV at HH5
                have HHC := Lib.hid (fun w' (f : Fr No w5 w') => gwaste_ o5 0 _ L x5.2 x w' (t5.no i5.ok s5.fresh f) i5.ok (Step.no (C := fun _ => False) s5.fresh f).fresh HX.out)
                unfold BoolPost stpV at HHC
                clear d5 i5 s5 t5
                go_wp2_with (refine wpList_load_row rfl 46 (.tmp 5) rfl b0 rfl 46 _ (0, 0) _ ZX5.out.1 Tryz.underlying46 rfl Tryz.size46 ?_)
                refine HH5.out.mono ?_
                rintro e w6 ⟨rfl, f6⟩
                have k6 := f6.block_of ZX5.out.1 id
                have p0 : w6.cell? ⟨b0, 0, none⟩ = some (.int .i64 x.1) := by rw [cell_at k6]; rfl
                have p1 : w6.cell? ⟨b0, 1, none⟩ = some (.int .i64 x.2.1) := by rw [cell_at k6]; rfl
                have p2 : w6.cell? ⟨b0, 2, none⟩ = some (.int .i64 x.2.2) := by rw [cell_at k6]; rfl
                have HC6 := Lib.hid (HHC.out w6 f6)
                rw [decide_eq_true HW5.out] at HC6
                have S6 := Lib.hid (S5.out.trans ((Step.no (C := fun _ => False) S5.out.fresh f6).mono (D := stateC 0) (fun _ e => e.elim)) (fun _ e => e))
                have T6 := Lib.hid (T5.out.no I5.out.ok S5.out.fresh f6)
                clear k6 f6
                go_wp2_with fail
                refine HC6.out.mono ?_
                rintro e w7 ⟨rfl, f7⟩
                have L7 : Hid (Lies w4 o4 L (j + (i + 1)) (fun T => wasteS T x) w7) := Lib.hid ⟨o5, x5.2, S6.out.trans ((Step.no (C := fun _ => False) S6.out.fresh f7).mono (fun _ e => e.elim)) (fun _ e => e), T6.out.no I5.out.ok S6.out.fresh f7, I5.out, HW5.out⟩
                clear f7 p0 p1 p2
                go_wp2_with fail
                go_roundw
                case rel => exact ⟨i + 1, by go_num, hlt, L7⟩
                case measure => simp [intOf]; omega
              · have q1 : ¬ (i : Int) < (L2.length : Int) := by omega
                have FB := Lib.hid (HLI.out.fr F4.out HLE.out)
                go_wp2_with fail
                exact HQ.out _ FB.out
end Go.Proofs.YtlcojhddnpmgmaaGreat
