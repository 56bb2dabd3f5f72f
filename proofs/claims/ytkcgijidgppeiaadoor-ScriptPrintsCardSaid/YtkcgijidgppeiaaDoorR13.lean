/- The reference's Print, walked. -/
import Derived.Test.YtkcgijidgppeiaaDoorR4
import Derived.Test.YtkcgijidgppeiaaDoorR13a
import Derived.Test.YtkcgijidgppeiaaDoorP15
import Derived.Test.YtkcgijidgppeiaaDoorR12
import Derived.Deep.RegionHeld3
namespace Go.Proofs.YtkcgijidgppeiaaDoor
open Go.RowKit
set_option linter.unusedSimpArgs false

theorem rname2 (k : Int) (w : World) (h : I64 k) : Calls Tryd.prog 34 #[.int .i64 k] w fun e w' => e = .returned (.string (Scr.nameB k)) ∧ Fr No w w' := rname_ k w h
theorem cat_ (a b : ByteArray) (h : a.size + b.size ≤ 1000000000) (w : World) : (binOp .add 9 (.string a) (.string b)).run Tryd.prog w = .ok (.string (a ++ b)) w := by
  simp [binOp, Op.stringOp]
  omega

set_option maxRecDepth 100000 in
set_option maxHeartbeats 20000000 in
theorem rprint_ (c : Scr.Cfg) (evs : List Scr.Ev) (v : Value) (w : World) (h8 : 8 ≤ w.heap.size) (hc : I64 c.servers ∧ I64 c.clients ∧ I64 c.sectors ∧ I64 c.journal ∧ I64 c.tries) (hv : EvsAt w v evs) (hN : evs.length ≤ 1000000) :
    Calls Tryd.prog 15 #[.agg #[.int .i64 c.servers, .int .i64 c.clients, .int .i64 c.sectors, .int .i64 c.journal, .int .i64 c.tries], v] w (PrintPost w c evs) := by
  obtain ⟨a, cp, rfl, hcp, hev⟩ := hv
  go_enter Tryd.func15, Tryd.ntmps15
  go_wp2_with fail
  have HEV := Lib.hid hev
  clear hev
  generalize hw0 : w.alloc (.cells #[.int .i64 c.servers, .int .i64 c.clients, .int .i64 c.sectors, .int .i64 c.journal, .int .i64 c.tries] 29) = w0
  have f0 : Fr No w w0 := hw0 ▸ (Fr.refl w).alloc _
  have k0 : w0.heap[w.heap.size]? = some (.cells #[.int .i64 c.servers, .int .i64 c.clients, .int .i64 c.sectors, .int .i64 c.journal, .int .i64 c.tries] 29 (0, 0)) := hw0 ▸ heap_alloc_new w _
  clear hw0
  go_loopw [6] (fun i wr => ∃ (j : Nat), i = .int .i64 j ∧ j ≤ evs.length ∧ (evs.take j).any (fun x => (Scr.name x.kind).isEmpty) = false ∧ Fr No w0 wr) (fun i _ => evs.length - (intOf i).toNat)
  case atStart => exact ⟨0, rfl, Nat.zero_le _, rfl, Fr.refl _⟩
  case round =>
    obtain ⟨j, rfl, hj, hany, fr⟩ := hrel
    have HANY := Lib.hid hany
    clear hany
    by_cases hlt : j < evs.length
    · obtain ⟨b, off, rfl, hx⟩ : ∃ b off, a = some ⟨b, off, none⟩ ∧ ∃ oa ol oc va vl vc, EvV w evs[j] (evCells evs[j] (.slice oa ol oc) (.slice va vl vc)).toList ∧ w.rangeAt b (off + j * 13) (evCells evs[j] (.slice oa ol oc) (.slice va vl vc)).toList := by
        rcases HEV.out with h | ⟨b, off, rfl, hb, h⟩
        · rw [h] at hlt; simp at hlt
        · exact ⟨b, off, rfl, h j evs[j] (List.getElem?_eq_getElem hlt)⟩
      obtain ⟨oa, ol, oc, va, vl, vc, hv, hr⟩ := hx
      have hrr : wr.rangeAt b (off + j * 13) (evCells evs[j] (.slice oa ol oc) (.slice va vl vc)).toList := fun i u hi => (f0.trans fr (fun _ _ e => e)).cell_of (hr i u hi) id
      have qlt : (j : Int) < (evs.length : Int) := by omega
      have c0 : wr.cell? ⟨b, off + j * 13, none⟩ = some (.int .i64 evs[j].kind) := hrr 0 _ rfl
      generalize hxx : evs[j] = x at *
      have HXX := Lib.hid hxx
      have HVV := Lib.hid hv
      clear hr hrr hv hxx
      go_wp2_with fail
      have hik : I64 x.kind := by
        obtain ⟨_, _, _, _, _, h1, _⟩ := HVV.out
        exact h1
      refine (rname_ x.kind _ hik).mono ?_
      rintro e w3 ⟨rfl, f3⟩
      have F3 : Fr No w0 w3 := fr.trans f3 (fun _ _ e => e)
      by_cases hn : List.isEmpty (Scr.name x.kind) = true
      · have hn2 : (Scr.name x.kind) = [] := by simpa using hn
        have HNN := Lib.hid hn
        clear hn c0
        rw [hn2]
        clear hn2
        go_wp2_with fail
        go_ret2
        refine ⟨?_, f0.trans F3 (fun _ _ e => e)⟩
        have hp : Scr.print c evs = (⟨#[]⟩, 1) := by
          unfold Scr.print
          rw [if_pos]
          refine List.any_eq_true.2 ⟨x, ?_, HNN.out⟩
          rw [← HXX.out]
          exact List.getElem_mem hlt
        rw [hp]
        rfl
      · have hn3 : List.isEmpty (Scr.name x.kind) = false := by simpa using hn
        have HNN := Lib.hid hn3
        clear hn c0
        go_wp2_with fail
        go_roundw
        case rel =>
          refine ⟨j + 1, by go_num, by omega, ?_, F3⟩
          rw [List.take_succ_eq_append_getElem hlt, List.any_append, HANY.out, HXX.out]
          simpa using HNN.out
        case measure => simp [intOf]; omega
    · obtain rfl : j = evs.length := by omega
      rw [List.take_length] at HANY
      have kc := fr.block_of k0 id
      have F0 : Fr No w wr := f0.trans fr (fun _ _ e => e)
      by_cases hlong : 2047 < evs.length
      · have ql : (2047 : Int) < (evs.length : Int) := by omega
        go_wp2_with fail
        go_ret2
        refine ⟨?_, F0⟩
        have hp : Scr.print c evs = (⟨#[]⟩, 3) := by
          unfold Scr.print
          rw [if_neg (by rw [HANY.out]; simp), if_pos hlong]
        rw [hp]
        rfl
      · have ql : ¬ (2047 : Int) < (evs.length : Int) := by omega
        obtain ⟨hc0, hc1, hc2, hc3, hc4⟩ := hc
        have s0 := itoa_len _ hc0
        have s1 := itoa_len _ hc1
        have s2 := itoa_len _ hc2
        have s3 := itoa_len _ hc3
        have s4 := itoa_len _ hc4
        have q1 : ¬ (9223372036854775807 < 6 + (Scr.itoaB c.servers).size) := by omega
        have q2 : ¬ (9223372036854775807 < 6 + (Scr.itoaB c.servers).size + 1) := by omega
        have q3 : ¬ (9223372036854775807 < 6 + (Scr.itoaB c.servers).size + 1 + (Scr.itoaB c.clients).size) := by omega
        have q4 : ¬ (9223372036854775807 < 6 + (Scr.itoaB c.servers).size + 1 + (Scr.itoaB c.clients).size + 1) := by omega
        have q5 : ¬ (9223372036854775807 < 6 + (Scr.itoaB c.servers).size + 1 + (Scr.itoaB c.clients).size + 1 + (Scr.itoaB c.sectors).size) := by omega
        have q6 : ¬ (9223372036854775807 < 6 + (Scr.itoaB c.servers).size + 1 + (Scr.itoaB c.clients).size + 1 + (Scr.itoaB c.sectors).size + 1) := by omega
        have q7 : ¬ (9223372036854775807 < 6 + (Scr.itoaB c.servers).size + 1 + (Scr.itoaB c.clients).size + 1 + (Scr.itoaB c.sectors).size + 1 + (Scr.itoaB c.journal).size) := by omega
        have q8 : ¬ (9223372036854775807 < 6 + (Scr.itoaB c.servers).size + 1 + (Scr.itoaB c.clients).size + 1 + (Scr.itoaB c.sectors).size + 1 + (Scr.itoaB c.journal).size + 1) := by omega
        have q9 : ¬ (9223372036854775807 < 6 + (Scr.itoaB c.servers).size + 1 + (Scr.itoaB c.clients).size + 1 + (Scr.itoaB c.sectors).size + 1 + (Scr.itoaB c.journal).size + 1 + (Scr.itoaB c.tries).size) := by omega
        have q10 : ¬ (9223372036854775807 < 6 + (Scr.itoaB c.servers).size + 1 + (Scr.itoaB c.clients).size + 1 + (Scr.itoaB c.sectors).size + 1 + (Scr.itoaB c.journal).size + 1 + (Scr.itoaB c.tries).size + 1) := by omega
        have hh : Scr.head c = ((((((((((⟨#[119, 111, 114, 108, 100, 32]⟩ ++ Scr.itoaB c.servers) ++ ⟨#[32]⟩) ++ Scr.itoaB c.clients) ++ ⟨#[32]⟩) ++ Scr.itoaB c.sectors) ++ ⟨#[32]⟩) ++ Scr.itoaB c.journal) ++ ⟨#[32]⟩) ++ Scr.itoaB c.tries) ++ ⟨#[10]⟩) := by
          apply Scr.ba_ext
          rw [Scr.head, Scr.ba_append, Scr.rowB_list]
          simp [Scr.ba_append, Scr.glue_cons, Scr.glue_one, Scr.space]
        have HH := Lib.hid hh
        clear hh
        have cc0 : wr.cell? ⟨w.heap.size, 0, none⟩ = some (.int .i64 c.servers) := by rw [cell_at kc]; rfl
        have cc1 : wr.cell? ⟨w.heap.size, 1, none⟩ = some (.int .i64 c.clients) := by rw [cell_at kc]; rfl
        have cc2 : wr.cell? ⟨w.heap.size, 2, none⟩ = some (.int .i64 c.sectors) := by rw [cell_at kc]; rfl
        have cc3 : wr.cell? ⟨w.heap.size, 3, none⟩ = some (.int .i64 c.journal) := by rw [cell_at kc]; rfl
        have cc4 : wr.cell? ⟨w.heap.size, 4, none⟩ = some (.int .i64 c.tries) := by rw [cell_at kc]; rfl
        have w8 : 8 ≤ wr.heap.size := Nat.le_trans h8 F0.size
        go_upto_region 8 with fail
        go_cut [7] from 12 (fun b wx => ∃ wn : World, Fr No w wn ∧ Fr No wn wx ∧ OwnT wx wn.heap.size b (Lib.byteCells (Scr.head c).data.toList) ∧ (Scr.head c).size ≤ 1000)
        case first =>
          have hcv := conv_
          refine wp_region_held_drew (S := fun w' => w'.cell? ⟨w.heap.size, 0, none⟩ = some (.int .i64 c.servers) ∧ w'.cell? ⟨w.heap.size, 1, none⟩ = some (.int .i64 c.clients) ∧ w'.cell? ⟨w.heap.size, 2, none⟩ = some (.int .i64 c.sectors) ∧ w'.cell? ⟨w.heap.size, 3, none⟩ = some (.int .i64 c.journal) ∧ w'.cell? ⟨w.heap.size, 4, none⟩ = some (.int .i64 c.tries) ∧ 8 ≤ w'.heap.size) (by as_aux_lemma => kernel_rfl) ⟨cc0, cc1, cc2, cc3, cc4, w8⟩ (fun hHeld => ?_)
          refine wpAnyH_take (i := 0) (v := ?_) rfl (by as_aux_lemma => kernel_rfl) (by as_aux_lemma => kernel_rfl) (by as_aux_lemma => kernel_rfl) (fun _ _ _ h => h) (Or.inl ⟨by rfl, ?_⟩) (by assumption) ?_
          rotate_left
          · (intro w' hSw; (try dsimp only at hSw); go_simp; (try with_reducible rfl))
          try simp only [Act.put, List.setIfInBounds_toArray, List.set_cons_zero, List.set_cons_succ]
          refine wpAnyH_take (i := 1) (v := ?_) rfl (by as_aux_lemma => kernel_rfl) (by as_aux_lemma => kernel_rfl) (by as_aux_lemma => kernel_rfl) (fun _ _ _ h => h) (Or.inl ⟨by rfl, ?_⟩) (by assumption) ?_
          rotate_left
          · (intro w' hSw; (try dsimp only at hSw); go_simp; (try with_reducible rfl))
          try simp only [Act.put, List.setIfInBounds_toArray, List.set_cons_zero, List.set_cons_succ]
          refine wpAnyH_take (i := 5) (v := ?_) rfl (by as_aux_lemma => kernel_rfl) (by as_aux_lemma => kernel_rfl) (by as_aux_lemma => kernel_rfl) (fun _ _ _ h => h) (Or.inl ⟨by rfl, ?_⟩) (by assumption) ?_
          rotate_left
          · (intro w' hSw; (try dsimp only at hSw); go_simp; (try with_reducible rfl))
          try simp only [Act.put, List.setIfInBounds_toArray, List.set_cons_zero, List.set_cons_succ]
          refine wpAnyH_take (i := 6) (v := ?_) rfl (by as_aux_lemma => kernel_rfl) (by as_aux_lemma => kernel_rfl) (by as_aux_lemma => kernel_rfl) (fun _ _ _ h => h) (Or.inl ⟨by rfl, ?_⟩) (by assumption) ?_
          rotate_left
          · (intro w' hSw; (try dsimp only at hSw); go_simp; (try with_reducible rfl))
          try simp only [Act.put, List.setIfInBounds_toArray, List.set_cons_zero, List.set_cons_succ]
          refine wpAnyH_take (i := 10) (v := ?_) rfl (by as_aux_lemma => kernel_rfl) (by as_aux_lemma => kernel_rfl) (by as_aux_lemma => kernel_rfl) (fun _ _ _ h => h) (Or.inl ⟨by rfl, ?_⟩) (by assumption) ?_
          rotate_left
          · (intro w' hSw; (try dsimp only at hSw); go_simp; (try with_reducible rfl))
          try simp only [Act.put, List.setIfInBounds_toArray, List.set_cons_zero, List.set_cons_succ]
          refine wpAnyH_take (i := 11) (v := ?_) rfl (by as_aux_lemma => kernel_rfl) (by as_aux_lemma => kernel_rfl) (by as_aux_lemma => kernel_rfl) (fun _ _ _ h => h) (Or.inl ⟨by rfl, ?_⟩) (by assumption) ?_
          rotate_left
          · (intro w' hSw; (try dsimp only at hSw); go_simp; (try with_reducible rfl))
          try simp only [Act.put, List.setIfInBounds_toArray, List.set_cons_zero, List.set_cons_succ]
          refine wpAnyH_take (i := 15) (v := ?_) rfl (by as_aux_lemma => kernel_rfl) (by as_aux_lemma => kernel_rfl) (by as_aux_lemma => kernel_rfl) (fun _ _ _ h => h) (Or.inl ⟨by rfl, ?_⟩) (by assumption) ?_
          rotate_left
          · (intro w' hSw; (try dsimp only at hSw); go_simp; (try with_reducible rfl))
          try simp only [Act.put, List.setIfInBounds_toArray, List.set_cons_zero, List.set_cons_succ]
          refine wpAnyH_take (i := 16) (v := ?_) rfl (by as_aux_lemma => kernel_rfl) (by as_aux_lemma => kernel_rfl) (by as_aux_lemma => kernel_rfl) (fun _ _ _ h => h) (Or.inl ⟨by rfl, ?_⟩) (by assumption) ?_
          rotate_left
          · (intro w' hSw; (try dsimp only at hSw); go_simp; (try with_reducible rfl))
          try simp only [Act.put, List.setIfInBounds_toArray, List.set_cons_zero, List.set_cons_succ]
          refine wpAnyH_take (i := 20) (v := ?_) rfl (by as_aux_lemma => kernel_rfl) (by as_aux_lemma => kernel_rfl) (by as_aux_lemma => kernel_rfl) (fun _ _ _ h => h) (Or.inl ⟨by rfl, ?_⟩) (by assumption) ?_
          rotate_left
          · (intro w' hSw; (try dsimp only at hSw); go_simp; (try with_reducible rfl))
          try simp only [Act.put, List.setIfInBounds_toArray, List.set_cons_zero, List.set_cons_succ]
          refine wpAnyH_take (i := 21) (v := ?_) rfl (by as_aux_lemma => kernel_rfl) (by as_aux_lemma => kernel_rfl) (by as_aux_lemma => kernel_rfl) (fun _ _ _ h => h) (Or.inl ⟨by rfl, ?_⟩) (by assumption) ?_
          rotate_left
          · (intro w' hSw; (try dsimp only at hSw); go_simp; (try with_reducible rfl))
          try simp only [Act.put, List.setIfInBounds_toArray, List.set_cons_zero, List.set_cons_succ]
          refine wpAnyH_ready (rs := [2]) (by as_aux_lemma => kernel_rfl) (by simp) ?_
          refine AllReadyH.cons rfl (fun K hK => ?_) AllReadyH.nil
          go_simp
          go_wp2_with (go_at_call 35; refine (int_ _ _ hHeld.2.2.2.2.2 hc0).mono ?_; rintro e wn0 ⟨rfl, fn0⟩)
          refine hK.out _ _ ⟨fn0.cell_of hHeld.1 id, fn0.cell_of hHeld.2.1 id, fn0.cell_of hHeld.2.2.1 id, fn0.cell_of hHeld.2.2.2.1 id, fn0.cell_of hHeld.2.2.2.2.1 id, Nat.le_trans hHeld.2.2.2.2.2 fn0.size⟩ (fun hHeld => ?_)
          clear hK K
          try simp only [Act.put, List.setIfInBounds_toArray, List.set_cons_zero, List.set_cons_succ]
          refine wpAnyH_take (i := 3) (v := ?_) rfl (by as_aux_lemma => kernel_rfl) (by as_aux_lemma => kernel_rfl) (by as_aux_lemma => kernel_rfl) (fun _ _ _ h => h) (Or.inl ⟨by rfl, ?_⟩) (by assumption) ?_
          rotate_left
          · (intro w' hSw; (try dsimp only at hSw); go_simp; (try with_reducible rfl))
          try simp only [Act.put, List.setIfInBounds_toArray, List.set_cons_zero, List.set_cons_succ]
          refine wpAnyH_take (i := 4) (v := ?_) rfl (by as_aux_lemma => kernel_rfl) (by as_aux_lemma => kernel_rfl) (by as_aux_lemma => kernel_rfl) (fun _ _ _ h => h) (Or.inl ⟨by rfl, ?_⟩) (by assumption) ?_
          rotate_left
          · (intro w' hSw; (try dsimp only at hSw); go_simp; (try with_reducible rfl))
          try simp only [Act.put, List.setIfInBounds_toArray, List.set_cons_zero, List.set_cons_succ]
          refine wpAnyH_ready (rs := [7]) (by as_aux_lemma => kernel_rfl) (by simp) ?_
          refine AllReadyH.cons rfl (fun K hK => ?_) AllReadyH.nil
          go_simp
          go_wp2_with (go_at_call 35; refine (int_ _ _ hHeld.2.2.2.2.2 hc1).mono ?_; rintro e wn1 ⟨rfl, fn1⟩)
          refine hK.out _ _ ⟨fn1.cell_of hHeld.1 id, fn1.cell_of hHeld.2.1 id, fn1.cell_of hHeld.2.2.1 id, fn1.cell_of hHeld.2.2.2.1 id, fn1.cell_of hHeld.2.2.2.2.1 id, Nat.le_trans hHeld.2.2.2.2.2 fn1.size⟩ (fun hHeld => ?_)
          clear hK K
          try simp only [Act.put, List.setIfInBounds_toArray, List.set_cons_zero, List.set_cons_succ]
          refine wpAnyH_take (i := 8) (v := ?_) rfl (by as_aux_lemma => kernel_rfl) (by as_aux_lemma => kernel_rfl) (by as_aux_lemma => kernel_rfl) (fun _ _ _ h => h) (Or.inl ⟨by rfl, ?_⟩) (by assumption) ?_
          rotate_left
          · (intro w' hSw; (try dsimp only at hSw); go_simp; (try with_reducible rfl))
          try simp only [Act.put, List.setIfInBounds_toArray, List.set_cons_zero, List.set_cons_succ]
          refine wpAnyH_take (i := 9) (v := ?_) rfl (by as_aux_lemma => kernel_rfl) (by as_aux_lemma => kernel_rfl) (by as_aux_lemma => kernel_rfl) (fun _ _ _ h => h) (Or.inl ⟨by rfl, ?_⟩) (by assumption) ?_
          rotate_left
          · (intro w' hSw; (try dsimp only at hSw); go_simp; (try with_reducible rfl))
          try simp only [Act.put, List.setIfInBounds_toArray, List.set_cons_zero, List.set_cons_succ]
          refine wpAnyH_ready (rs := [12]) (by as_aux_lemma => kernel_rfl) (by simp) ?_
          refine AllReadyH.cons rfl (fun K hK => ?_) AllReadyH.nil
          go_simp
          go_wp2_with (go_at_call 35; refine (int_ _ _ hHeld.2.2.2.2.2 hc2).mono ?_; rintro e wn2 ⟨rfl, fn2⟩)
          refine hK.out _ _ ⟨fn2.cell_of hHeld.1 id, fn2.cell_of hHeld.2.1 id, fn2.cell_of hHeld.2.2.1 id, fn2.cell_of hHeld.2.2.2.1 id, fn2.cell_of hHeld.2.2.2.2.1 id, Nat.le_trans hHeld.2.2.2.2.2 fn2.size⟩ (fun hHeld => ?_)
          clear hK K
          try simp only [Act.put, List.setIfInBounds_toArray, List.set_cons_zero, List.set_cons_succ]
          refine wpAnyH_take (i := 13) (v := ?_) rfl (by as_aux_lemma => kernel_rfl) (by as_aux_lemma => kernel_rfl) (by as_aux_lemma => kernel_rfl) (fun _ _ _ h => h) (Or.inl ⟨by rfl, ?_⟩) (by assumption) ?_
          rotate_left
          · (intro w' hSw; (try dsimp only at hSw); go_simp; (try with_reducible rfl))
          try simp only [Act.put, List.setIfInBounds_toArray, List.set_cons_zero, List.set_cons_succ]
          refine wpAnyH_take (i := 14) (v := ?_) rfl (by as_aux_lemma => kernel_rfl) (by as_aux_lemma => kernel_rfl) (by as_aux_lemma => kernel_rfl) (fun _ _ _ h => h) (Or.inl ⟨by rfl, ?_⟩) (by assumption) ?_
          rotate_left
          · (intro w' hSw; (try dsimp only at hSw); go_simp; (try with_reducible rfl))
          try simp only [Act.put, List.setIfInBounds_toArray, List.set_cons_zero, List.set_cons_succ]
          refine wpAnyH_ready (rs := [17]) (by as_aux_lemma => kernel_rfl) (by simp) ?_
          refine AllReadyH.cons rfl (fun K hK => ?_) AllReadyH.nil
          go_simp
          go_wp2_with (go_at_call 35; refine (int_ _ _ hHeld.2.2.2.2.2 hc3).mono ?_; rintro e wn3 ⟨rfl, fn3⟩)
          refine hK.out _ _ ⟨fn3.cell_of hHeld.1 id, fn3.cell_of hHeld.2.1 id, fn3.cell_of hHeld.2.2.1 id, fn3.cell_of hHeld.2.2.2.1 id, fn3.cell_of hHeld.2.2.2.2.1 id, Nat.le_trans hHeld.2.2.2.2.2 fn3.size⟩ (fun hHeld => ?_)
          clear hK K
          try simp only [Act.put, List.setIfInBounds_toArray, List.set_cons_zero, List.set_cons_succ]
          refine wpAnyH_take (i := 18) (v := ?_) rfl (by as_aux_lemma => kernel_rfl) (by as_aux_lemma => kernel_rfl) (by as_aux_lemma => kernel_rfl) (fun _ _ _ h => h) (Or.inl ⟨by rfl, ?_⟩) (by assumption) ?_
          rotate_left
          · (intro w' hSw; (try dsimp only at hSw); go_simp; (try with_reducible rfl))
          try simp only [Act.put, List.setIfInBounds_toArray, List.set_cons_zero, List.set_cons_succ]
          refine wpAnyH_take (i := 19) (v := ?_) rfl (by as_aux_lemma => kernel_rfl) (by as_aux_lemma => kernel_rfl) (by as_aux_lemma => kernel_rfl) (fun _ _ _ h => h) (Or.inl ⟨by rfl, ?_⟩) (by assumption) ?_
          rotate_left
          · (intro w' hSw; (try dsimp only at hSw); go_simp; (try with_reducible rfl))
          try simp only [Act.put, List.setIfInBounds_toArray, List.set_cons_zero, List.set_cons_succ]
          refine wpAnyH_ready (rs := [22]) (by as_aux_lemma => kernel_rfl) (by simp) ?_
          refine AllReadyH.cons rfl (fun K hK => ?_) AllReadyH.nil
          go_simp
          go_wp2_with (go_at_call 35; refine (int_ _ _ hHeld.2.2.2.2.2 hc4).mono ?_; rintro e wn4 ⟨rfl, fn4⟩)
          refine hK.out _ _ ⟨fn4.cell_of hHeld.1 id, fn4.cell_of hHeld.2.1 id, fn4.cell_of hHeld.2.2.1 id, fn4.cell_of hHeld.2.2.2.1 id, fn4.cell_of hHeld.2.2.2.2.1 id, Nat.le_trans hHeld.2.2.2.2.2 fn4.size⟩ (fun hHeld => ?_)
          clear hK K
          try simp only [Act.put, List.setIfInBounds_toArray, List.set_cons_zero, List.set_cons_succ]
          refine wpAnyH_take (i := 23) (v := ?_) rfl (by as_aux_lemma => kernel_rfl) (by as_aux_lemma => kernel_rfl) (by as_aux_lemma => kernel_rfl) (fun _ _ _ h => h) (Or.inl ⟨by rfl, ?_⟩) (by assumption) ?_
          rotate_left
          · (intro w' hSw; (try dsimp only at hSw); go_simp; (try with_reducible rfl))
          try simp only [Act.put, List.setIfInBounds_toArray, List.set_cons_zero, List.set_cons_succ]
          refine wpAnyH_take (i := 24) (v := ?_) rfl (by as_aux_lemma => kernel_rfl) (by as_aux_lemma => kernel_rfl) (by as_aux_lemma => kernel_rfl) (fun _ _ _ h => h) (Or.inl ⟨by rfl, ?_⟩) (by assumption) ?_
          rotate_left
          · (intro w' hSw; (try dsimp only at hSw); go_simp; (try with_reducible rfl))
          try simp only [Act.put, List.setIfInBounds_toArray, List.set_cons_zero, List.set_cons_succ]
          rw [← HH.out]
          refine wpAnyH_ready (rs := [25]) (by as_aux_lemma => kernel_rfl) (by simp) ?_
          refine AllReadyH.cons rfl (fun K hK => ?_) AllReadyH.nil
          go_simp
          refine hK.out _ _ ⟨((Fr.refl (S := No) _).conv _).cell_of hHeld.1 id, ((Fr.refl (S := No) _).conv _).cell_of hHeld.2.1 id, ((Fr.refl (S := No) _).conv _).cell_of hHeld.2.2.1 id, ((Fr.refl (S := No) _).conv _).cell_of hHeld.2.2.2.1 id, ((Fr.refl (S := No) _).conv _).cell_of hHeld.2.2.2.2.1 id, Nat.le_trans hHeld.2.2.2.2.2 ((Fr.refl (S := No) _).conv _).size⟩ (fun hHeld => ?_)
          clear hK K
          try simp only [Act.put, List.setIfInBounds_toArray, List.set_cons_zero, List.set_cons_succ]
          refine wpAnyH_take (i := 26) (v := ?_) rfl (by as_aux_lemma => kernel_rfl) (by as_aux_lemma => kernel_rfl) (by as_aux_lemma => kernel_rfl) (fun _ _ _ h => h) (Or.inl ⟨by rfl, ?_⟩) (by assumption) ?_
          rotate_left
          · (intro w' hSw; (try dsimp only at hSw); go_simp; (try with_reducible rfl))
          try simp only [Act.put, List.setIfInBounds_toArray, List.set_cons_zero, List.set_cons_succ]
          refine wpAnyH_done (by as_aux_lemma => kernel_rfl) ?_ _
          have FN : Fr No w wn4 := (((((F0.drew.trans fn0 (fun _ _ e => e)).trans fn1 (fun _ _ e => e)).trans fn2 (fun _ _ e => e)).trans fn3 (fun _ _ e => e)).trans fn4 (fun _ _ e => e))
          have hhs : (Scr.head c).size ≤ 1000 := by
            rw [HH.out]
            simp only [ByteArray.size_append]
            have e1 : (⟨#[119, 111, 114, 108, 100, 32]⟩ : ByteArray).size = 6 := rfl
            have e2 : (⟨#[32]⟩ : ByteArray).size = 1 := rfl
            have e3 : (⟨#[10]⟩ : ByteArray).size = 1 := rfl
            omega
          have hown0 := own_conv wn4 (Scr.head c) (by omega)
          have FB : Fr No wn4 (Lib.bytesWorld wn4 5 (Scr.head c)) := (Fr.refl wn4).conv _
          go_simp
          go_wp2_with fail
          go_meet
          exact ⟨wn4, FN, FB, hown0, hhs⟩
        case rest =>
          obtain ⟨wn4, FN, FB, hown0, hhs⟩ := hcut
          clear cc0 cc1 cc2 cc3 cc4 w8 q1 q2 q3 q4 q5 q6 q7 q8 q9 q10 s0 s1 s2 s3 s4 HH
          go_wp2_with fail
          obtain ⟨wo, rfl⟩ : ∃ wo : World, wo = wr := ⟨_, rfl⟩
          go_loopw [7, 8] (fun b i wr => ∃ (j : Nat) (out : ByteArray), i = .int .i64 j ∧ j ≤ evs.length ∧ out.size ≤ 60000000 ∧ OwnT wr wn4.heap.size b (Lib.byteCells out.data.toList) ∧ Scr.printFrom (Scr.head c) evs = Scr.printFrom out (evs.drop j) ∧ Fr No wn4 wr) (fun _ i _ => evs.length - (intOf i).toNat)
          case atStart => exact ⟨0, Scr.head c, rfl, Nat.zero_le _, by omega, hown0, rfl, FB⟩
          case round =>
            obtain ⟨j, out, rfl, hj, hos, hown, hpf, fq⟩ := hrel
            obtain ⟨g, cap, rfl⟩ := hown.sl
            have HOWN := Lib.hid hown
            have HPF := Lib.hid hpf
            clear hpf hown hown0 FB
            have FWq : Fr No w wr := FN.trans fq (fun _ _ e => e)
            by_cases hlt : j < evs.length
            · obtain ⟨b, off, rfl, hx⟩ : ∃ b off, a = some ⟨b, off, none⟩ ∧ ∃ oa ol oc va vl vc, EvV w evs[j] (evCells evs[j] (.slice oa ol oc) (.slice va vl vc)).toList ∧ w.rangeAt b (off + j * 13) (evCells evs[j] (.slice oa ol oc) (.slice va vl vc)).toList := by
                rcases HEV.out with h | ⟨b, off, rfl, hb, h⟩
                · rw [h] at hlt; simp at hlt
                · exact ⟨b, off, rfl, h j evs[j] (List.getElem?_eq_getElem hlt)⟩
              obtain ⟨oa, ol, oc, va, vl, vc, hv, hr⟩ := hx
              have hrr : wr.rangeAt b (off + j * 13) (evCells evs[j] (.slice oa ol oc) (.slice va vl vc)).toList := fun i u hi => FWq.cell_of (hr i u hi) id
              have qlt : (j : Int) < (evs.length : Int) := by omega
              have c0 : wr.cell? ⟨b, off + j * 13, none⟩ = some (.int .i64 evs[j].kind) := hrr 0 _ rfl
              have c1 : wr.cell? ⟨b, off + j * 13 + 1, none⟩ = some (.int .i64 evs[j].node) := hrr 1 _ rfl
              have c2 : wr.cell? ⟨b, off + j * 13 + 2, none⟩ = some (.int .i64 evs[j].fate) := hrr 2 _ rfl
              have c3 : wr.cell? ⟨b, off + j * 13 + 3, none⟩ = some (.int .i64 evs[j].n) := hrr 3 _ rfl
              have c4 : wr.cell? ⟨b, off + j * 13 + 4, none⟩ = some (.int .i64 evs[j].op.kind) := hrr 4 _ rfl
              have c5 : wr.cell? ⟨b, off + j * 13 + 5, none⟩ = some (.string ⟨evs[j].op.path.toArray⟩) := hrr 5 _ rfl
              have c6 : wr.cell? ⟨b, off + j * 13 + 6, none⟩ = some (.string ⟨evs[j].op.to.toArray⟩) := hrr 6 _ rfl
              have c7 : wr.cell? ⟨b, off + j * 13 + 7, none⟩ = some (.int .i64 evs[j].op.handle) := hrr 7 _ rfl
              have c8 : wr.cell? ⟨b, off + j * 13 + 8, none⟩ = some (.int .i64 evs[j].op.pos) := hrr 8 _ rfl
              have c9 : wr.cell? ⟨b, off + j * 13 + 9, none⟩ = some (.int .i64 evs[j].op.n) := hrr 9 _ rfl
              have c10 : wr.cell? ⟨b, off + j * 13 + 10, none⟩ = some (.bool evs[j].op.writes) := hrr 10 _ rfl
              have c11 : wr.cell? ⟨b, off + j * 13 + 11, none⟩ = some (.slice oa ol oc) := hrr 11 _ rfl
              have c12 : wr.cell? ⟨b, off + j * 13 + 12, none⟩ = some (.slice va vl vc) := hrr 12 _ rfl
              have hdrop : evs.drop j = evs[j] :: evs.drop (j + 1) := List.drop_eq_getElem_cons hlt
              have hkk : 1 ≤ evs[j].kind ∧ evs[j].kind ≤ 10 := by
                refine name_kind ?_
                have := List.any_eq_false.1 HANY.out evs[j] (List.getElem_mem hlt)
                simpa using this
              generalize hxx : evs[j] = x at *
              have HVV := Lib.hid hv
              have HDR := Lib.hid hdrop
              have HKK := Lib.hid hkk
              clear hr hrr hv hxx hdrop hkk
              by_cases hbig : 65536 < out.size
              · have qb : ¬ (out.size : Int) ≤ 65536 := by omega
                have qb2 : (65536 : Int) < (out.size : Int) := by omega
                clear c0 c1 c2 c3 c4 c5 c6 c7 c8 c9 c10 c11 c12
                go_wp2_with fail
                go_ret2
                refine ⟨?_, FWq⟩
                rw [print_bad HANY.out hlong HPF.out (by rw [HDR.out]) hbig]
                rfl
              · have qb : (out.size : Int) ≤ 65536 := by omega
                go_upto_region 13 with fail
                have k5 := heap_alloc_new wr (.cells #[.int .i64 x.kind, .int .i64 x.node, .int .i64 x.fate, .int .i64 x.n, .int .i64 x.op.kind, .string ⟨x.op.path.toArray⟩, .string ⟨x.op.to.toArray⟩, .int .i64 x.op.handle, .int .i64 x.op.pos, .int .i64 x.op.n, .bool x.op.writes, .slice oa ol oc, .slice va vl vc] 47)
                have F5 : Fr No wr (wr.alloc (.cells #[.int .i64 x.kind, .int .i64 x.node, .int .i64 x.fate, .int .i64 x.n, .int .i64 x.op.kind, .string ⟨x.op.path.toArray⟩, .string ⟨x.op.to.toArray⟩, .int .i64 x.op.handle, .int .i64 x.op.pos, .int .i64 x.op.n, .bool x.op.writes, .slice oa ol oc, .slice va vl vc] 47)) := (Fr.refl wr).alloc _
                have e8 : 8 ≤ (wr.alloc (.cells #[.int .i64 x.kind, .int .i64 x.node, .int .i64 x.fate, .int .i64 x.n, .int .i64 x.op.kind, .string ⟨x.op.path.toArray⟩, .string ⟨x.op.to.toArray⟩, .int .i64 x.op.handle, .int .i64 x.op.pos, .int .i64 x.op.n, .bool x.op.writes, .slice oa ol oc, .slice va vl vc] 47)).heap.size := Nat.le_trans h8 (FWq.trans F5 (fun _ _ e => e)).size
                clear c0 c1 c2 c3 c4 c5 c6 c7 c8 c9 c10 c11 c12
                generalize wr.alloc (.cells #[.int .i64 x.kind, .int .i64 x.node, .int .i64 x.fate, .int .i64 x.n, .int .i64 x.op.kind, .string ⟨x.op.path.toArray⟩, .string ⟨x.op.to.toArray⟩, .int .i64 x.op.handle, .int .i64 x.op.pos, .int .i64 x.op.n, .bool x.op.writes, .slice oa ol oc, .slice va vl vc] 47) = w5 at *
                generalize wr.heap.size = b5 at *
                obtain ⟨hI, hsO, hsB⟩ : (I64 x.kind ∧ I64 x.node ∧ I64 x.fate ∧ I64 x.n ∧ I64 x.op.kind ∧ I64 x.op.handle ∧ I64 x.op.pos ∧ I64 x.op.n ∧ x.op.path.length ≤ 1048576 ∧ x.op.to.length ≤ 1048576 ∧ x.op.b.length ≤ 1048576 ∧ x.b.length ≤ 1048576) ∧ SlAt w (.slice oa ol oc) x.op.b ∧ SlAt w (.slice va vl vc) x.b := by
                  obtain ⟨ovs, vb, he, ⟨ob, rfl, hs, h1, h2, h3, h4, h5, h6, h7⟩, hs2, h8, h9, h10, h11, h12⟩ := HVV.out
                  simp [evCells] at he
                  obtain ⟨rfl, rfl⟩ := he
                  exact ⟨⟨h8, h9, h10, h11, h1, h2, h3, h4, h5, h6, h7, h12⟩, hs, hs2⟩
                obtain ⟨ik, inode, ifate, inn, iok, ihd, ipos, ion, lp, lt, lb, lvb⟩ := hI
                have zw := saidWs_size HVV.out
                have zk : (Scr.nameB x.kind).size ≤ 4194304 := zw.1 _ (by simp [Scr.saidWs])
                have zn := itoa_len _ inode
                have zf := itoa_len _ ifate
                have zz := itoa_len _ inn
                have z4 := itoa_len _ iok
                have z7 := itoa_len _ ihd
                have z8 := itoa_len _ ipos
                have z9 := itoa_len _ ion
                have zp := hex_size _ lp
                have zt := hex_size _ lt
                have zb := hex_size _ lb
                have zv := hex_size _ lvb
                have hcell : ∀ w', Fr No w5 w' → ∀ i v, (#[.int .i64 x.kind, .int .i64 x.node, .int .i64 x.fate, .int .i64 x.n, .int .i64 x.op.kind, .string ⟨x.op.path.toArray⟩, .string ⟨x.op.to.toArray⟩, .int .i64 x.op.handle, .int .i64 x.op.pos, .int .i64 x.op.n, .bool x.op.writes, .slice oa ol oc, .slice va vl vc] : Array Value)[i]? = some v → w'.cell? ⟨b5, i, none⟩ = some v := fun w' f i v hv => by rw [cell_at (f.block_of k5 id)]; exact hv
                have HCE := Lib.hid hcell
                have HK5 := Lib.hid k5
                clear hcell zw k5
                have d0 := HCE.out w5 (Fr.refl _) 0 _ rfl
                have d1 := HCE.out w5 (Fr.refl _) 1 _ rfl
                have qa1 : ¬ (9223372036854775807 < (Scr.nameB x.kind).size + 1) := by omega
                have qa2 : ¬ (9223372036854775807 < (Scr.nameB x.kind).size + 1 + (Scr.itoaB x.node).size) := by omega
                refine wp_region_held_drew (S := fun w' => w'.cell? ⟨b5, 0, none⟩ = some (.int .i64 x.kind) ∧ w'.cell? ⟨b5, 1, none⟩ = some (.int .i64 x.node) ∧ 8 ≤ w'.heap.size) (by as_aux_lemma => kernel_rfl) ⟨d0, d1, e8⟩ (fun hHeld => ?_)
                refine wpAnyH_take (i := 0) (v := ?_) rfl (by as_aux_lemma => kernel_rfl) (by as_aux_lemma => kernel_rfl) (by as_aux_lemma => kernel_rfl) (fun _ _ _ h => h) (Or.inl ⟨by rfl, ?_⟩) (by assumption) ?_
                rotate_left
                · (intro w' hSw; (try dsimp only at hSw); go_simp; (try with_reducible rfl))
                try simp only [Act.put, List.setIfInBounds_toArray, List.set_cons_zero, List.set_cons_succ]
                refine wpAnyH_take (i := 1) (v := ?_) rfl (by as_aux_lemma => kernel_rfl) (by as_aux_lemma => kernel_rfl) (by as_aux_lemma => kernel_rfl) (fun _ _ _ h => h) (Or.inl ⟨by rfl, ?_⟩) (by assumption) ?_
                rotate_left
                · (intro w' hSw; (try dsimp only at hSw); go_simp; (try with_reducible rfl))
                try simp only [Act.put, List.setIfInBounds_toArray, List.set_cons_zero, List.set_cons_succ]
                refine wpAnyH_take (i := 4) (v := ?_) rfl (by as_aux_lemma => kernel_rfl) (by as_aux_lemma => kernel_rfl) (by as_aux_lemma => kernel_rfl) (fun _ _ _ h => h) (Or.inl ⟨by rfl, ?_⟩) (by assumption) ?_
                rotate_left
                · (intro w' hSw; (try dsimp only at hSw); go_simp; (try with_reducible rfl))
                try simp only [Act.put, List.setIfInBounds_toArray, List.set_cons_zero, List.set_cons_succ]
                refine wpAnyH_take (i := 5) (v := ?_) rfl (by as_aux_lemma => kernel_rfl) (by as_aux_lemma => kernel_rfl) (by as_aux_lemma => kernel_rfl) (fun _ _ _ h => h) (Or.inl ⟨by rfl, ?_⟩) (by assumption) ?_
                rotate_left
                · (intro w' hSw; (try dsimp only at hSw); go_simp; (try with_reducible rfl))
                try simp only [Act.put, List.setIfInBounds_toArray, List.set_cons_zero, List.set_cons_succ]
                refine wpAnyH_ready (rs := [2]) (by as_aux_lemma => kernel_rfl) (by simp) ?_
                refine AllReadyH.cons rfl (fun K hK => ?_) AllReadyH.nil
                go_simp
                go_wp2_with (go_at_call 34; refine (rname2 _ _ ik).mono ?_; rintro e wa ⟨rfl, fa⟩)
                refine hK.out _ _ ⟨fa.cell_of hHeld.1 id, fa.cell_of hHeld.2.1 id, Nat.le_trans hHeld.2.2 fa.size⟩ (fun hHeld => ?_)
                clear hK K
                try simp only [Act.put, List.setIfInBounds_toArray, List.set_cons_zero, List.set_cons_succ]
                refine wpAnyH_take (i := 3) (v := ?_) rfl (by as_aux_lemma => kernel_rfl) (by as_aux_lemma => kernel_rfl) (by as_aux_lemma => kernel_rfl) (fun _ _ _ h => h) (Or.inl ⟨by rfl, ?_⟩) (by assumption) ?_
                rotate_left
                · (intro w' hSw; (try dsimp only at hSw); go_simp; (try with_reducible rfl))
                try simp only [Act.put, List.setIfInBounds_toArray, List.set_cons_zero, List.set_cons_succ]
                refine wpAnyH_ready (rs := [6]) (by as_aux_lemma => kernel_rfl) (by simp) ?_
                refine AllReadyH.cons rfl (fun K hK => ?_) AllReadyH.nil
                go_simp
                go_wp2_with (go_at_call 35; refine (int_ _ _ hHeld.2.2 inode).mono ?_; rintro e wb ⟨rfl, fb⟩)
                refine hK.out _ _ ⟨fb.cell_of hHeld.1 id, fb.cell_of hHeld.2.1 id, Nat.le_trans hHeld.2.2 fb.size⟩ (fun hHeld => ?_)
                clear hK K
                try simp only [Act.put, List.setIfInBounds_toArray, List.set_cons_zero, List.set_cons_succ]
                refine wpAnyH_take (i := 7) (v := ?_) rfl (by as_aux_lemma => kernel_rfl) (by as_aux_lemma => kernel_rfl) (by as_aux_lemma => kernel_rfl) (fun _ _ _ h => h) (Or.inl ⟨by rfl, ?_⟩) (by assumption) ?_
                rotate_left
                · (intro w' hSw; (try dsimp only at hSw); go_simp; (try with_reducible rfl))
                try simp only [Act.put, List.setIfInBounds_toArray, List.set_cons_zero, List.set_cons_succ]
                refine wpAnyH_take (i := 8) (v := ?_) rfl (by as_aux_lemma => kernel_rfl) (by as_aux_lemma => kernel_rfl) (by as_aux_lemma => kernel_rfl) (fun _ _ _ h => h) (Or.inl ⟨by rfl, ?_⟩) (by assumption) ?_
                rotate_left
                · (intro w' hSw; (try dsimp only at hSw); go_simp; (try with_reducible rfl))
                try simp only [Act.put, List.setIfInBounds_toArray, List.set_cons_zero, List.set_cons_succ]
                refine wpAnyH_done (by as_aux_lemma => kernel_rfl) ?_ _
                go_simp
                have G5 : Fr No w5 wb := ((Fr.refl w5).drew.trans fa (fun _ _ e => e)).trans fb (fun _ _ e => e)
                have b8 : 8 ≤ wb.heap.size := hHeld.2.2
                clear d0 d1 hHeld fa fb qa1 qa2
                have d0 := HCE.out wb G5 0 _ rfl
                have zs : (Scr.nameB x.kind ++ ⟨#[32]⟩ ++ Scr.itoaB x.node).size ≤ 5000000 := by
                  simp only [ByteArray.size_append]
                  have e2 : (⟨#[32]⟩ : ByteArray).size = 1 := rfl
                  omega
                generalize hs0 : Scr.nameB x.kind ++ ⟨#[32]⟩ ++ Scr.itoaB x.node = sb0 at *
                have HS0 := Lib.hid hs0
                clear hs0
                go_upto_block 4 with fail
                clear d0
                go_cut [10, 11] from 54 to 168 (fun s _ wx => ∃ sb : ByteArray, s = .string sb ∧ sb ++ ⟨#[10]⟩ = Scr.saidB x ∧ Fr No wr wx)
                case first =>
                  rcases (show x.kind = 1 ∨ (x.kind = 2 ∨ x.kind = 3 ∨ x.kind = 4) ∨ x.kind = 5 ∨ x.kind = 6 ∨ (x.kind = 7 ∨ x.kind = 8 ∨ x.kind = 9) ∨ x.kind = 10 by have := HKK.out; omega) with hk | hk | hk | hk | hk | hk
                  · have HK := Lib.hid hk
                    simp only [hk]
                    clear hk
                    have d10 := HCE.out wb G5 10 _ rfl
                    go_upto_if 83 with fail
                    clear d10
                    go_cut [11] from 54 to 168 (fun s wx => s = .string (Scr.bitB x.op.writes) ∧ wx = wb)
                    case first =>
                      cases hw : x.op.writes
                      · go_wp2_with fail
                        go_meet
                        exact ⟨by rw [hw]; rfl, rfl⟩
                      · go_wp2_with fail
                        go_meet
                        exact ⟨by rw [hw]; rfl, rfl⟩
                    case rest =>
                      obtain ⟨rfl, hwc⟩ := hcut
                      rw [hwc]
                      clear hwc
                      go_upto_region 19 with fail
                      refine begin_region x sb0 b5 oa va ol oc vl vc w5 wb HK5.out G5 e8 (hsO.no (FWq.trans F5 (fun _ _ e => e))) iok ihd ipos ion lp lt lb zs _ _ _ _ _ _ _ _ _ _ _ _ _ _ _ _ _ _ _ _ _ _ _ _ _ _ _ _ _ _ _ _ _ _ _ _ _ _ _ _ _ _ _ _ _ _ _ _ _ _ _ _ _ _ _ _ _ _ _ _ _ _ _ _ _ _ _ _ _ _ _ _ _ _ _ _ _ _ _ _ _ _ _ _ _ _ _ _ _ _ _ _ _ _ _ _ _ _ _ _ _ _ _ _ _ _ _ _ _ _ _ _ _ _ _ _ _ _ _ _ _ _ _ _ _ _ _ _ _ _ _ _ _ _ _ _ _ _ _ _ _ _ _ _ _ _ _ _ _ _ _ _ _ _ _ _ _ _ _ _ _ _ _ _ _ _ _ _ _ _ _ _ _ _ _ (fun _ i _ _ _ h => by cases i <;> exact h) ?_
                      intro v84 v85 v86 v87 v88 v89 v90 v91 v92 v93 v94 v95 v96 v97 v98 v99 v100 v101 v102 v103 v104 v105 v106 v107 v108 v109 v110 v111 v112 v113 v114 v115 v116 v117 v118 v119 v120 v121 v122 v123 v124 v125 v126 v127 v128 v129 v130 v131 v132 w9 f9
                      go_wp2_with fail
                      go_meet
                      exact ⟨_, rfl, by rw [← said1 x HK.out, HS0.out], F5.trans f9 (fun _ _ e => e)⟩
                  · have HK := Lib.hid hk
                    all_goals rcases hk with hk | hk | hk
                    all_goals simp only [hk]
                    all_goals have d2 := HCE.out wb G5 2 _ rfl
                    all_goals (
                      clear hk
                      have qb1 : ¬ (9223372036854775807 < sb0.size + 1) := by omega
                      have qb2 : ¬ (9223372036854775807 < sb0.size + 1 + (Scr.itoaB x.fate).size) := by omega
                      go_wp2_with fail
                      refine (int_ _ _ b8 ifate).mono ?_
                      rintro e wc ⟨rfl, fc⟩
                      go_wp2_with fail
                      go_meet
                      exact ⟨_, rfl, by rw [← HS0.out]; exact said2 x HK.out, (F5.trans G5 (fun _ _ e => e)).trans fc (fun _ _ e => e)⟩)
                  · have HK := Lib.hid hk
                    simp only [hk]
                    clear hk
                    go_upto_region 25 with fail
                    have d0 := HCE.out wb G5 0 _ rfl
                    have d3 := HCE.out wb G5 3 _ rfl
                    have qc1 : ¬ (9223372036854775807 < (Scr.nameB x.kind).size + 1) := by omega
                    have qc2 : ¬ (9223372036854775807 < (Scr.nameB x.kind).size + 1 + (Scr.itoaB x.n).size) := by omega
                    refine wp_region_held_drew (S := fun w' => w'.cell? ⟨b5, 0, none⟩ = some (.int .i64 x.kind) ∧ w'.cell? ⟨b5, 3, none⟩ = some (.int .i64 x.n) ∧ 8 ≤ w'.heap.size) (by as_aux_lemma => kernel_rfl) ⟨d0, d3, b8⟩ (fun hHeld => ?_)
                    refine wpAnyH_take (i := 0) (v := ?_) rfl (by as_aux_lemma => kernel_rfl) (by as_aux_lemma => kernel_rfl) (by as_aux_lemma => kernel_rfl) (fun _ _ _ h => h) (Or.inl ⟨by rfl, ?_⟩) (by assumption) ?_
                    rotate_left
                    · (intro w' hSw; (try dsimp only at hSw); go_simp; (try with_reducible rfl))
                    try simp only [Act.put, List.setIfInBounds_toArray, List.set_cons_zero, List.set_cons_succ]
                    refine wpAnyH_take (i := 1) (v := ?_) rfl (by as_aux_lemma => kernel_rfl) (by as_aux_lemma => kernel_rfl) (by as_aux_lemma => kernel_rfl) (fun _ _ _ h => h) (Or.inl ⟨by rfl, ?_⟩) (by assumption) ?_
                    rotate_left
                    · (intro w' hSw; (try dsimp only at hSw); go_simp; (try with_reducible rfl))
                    try simp only [Act.put, List.setIfInBounds_toArray, List.set_cons_zero, List.set_cons_succ]
                    refine wpAnyH_take (i := 4) (v := ?_) rfl (by as_aux_lemma => kernel_rfl) (by as_aux_lemma => kernel_rfl) (by as_aux_lemma => kernel_rfl) (fun _ _ _ h => h) (Or.inl ⟨by rfl, ?_⟩) (by assumption) ?_
                    rotate_left
                    · (intro w' hSw; (try dsimp only at hSw); go_simp; (try with_reducible rfl))
                    try simp only [Act.put, List.setIfInBounds_toArray, List.set_cons_zero, List.set_cons_succ]
                    refine wpAnyH_take (i := 5) (v := ?_) rfl (by as_aux_lemma => kernel_rfl) (by as_aux_lemma => kernel_rfl) (by as_aux_lemma => kernel_rfl) (fun _ _ _ h => h) (Or.inl ⟨by rfl, ?_⟩) (by assumption) ?_
                    rotate_left
                    · (intro w' hSw; (try dsimp only at hSw); go_simp; (try with_reducible rfl))
                    try simp only [Act.put, List.setIfInBounds_toArray, List.set_cons_zero, List.set_cons_succ]
                    refine wpAnyH_ready (rs := [2]) (by as_aux_lemma => kernel_rfl) (by simp) ?_
                    refine AllReadyH.cons rfl (fun K hK => ?_) AllReadyH.nil
                    go_simp
                    go_wp2_with (go_at_call 34; refine (rname2 _ _ ik).mono ?_; rintro e wc ⟨rfl, fa⟩)
                    refine hK.out _ _ ⟨fa.cell_of hHeld.1 id, fa.cell_of hHeld.2.1 id, Nat.le_trans hHeld.2.2 fa.size⟩ (fun hHeld => ?_)
                    clear hK K
                    try simp only [Act.put, List.setIfInBounds_toArray, List.set_cons_zero, List.set_cons_succ]
                    refine wpAnyH_take (i := 3) (v := ?_) rfl (by as_aux_lemma => kernel_rfl) (by as_aux_lemma => kernel_rfl) (by as_aux_lemma => kernel_rfl) (fun _ _ _ h => h) (Or.inl ⟨by rfl, ?_⟩) (by assumption) ?_
                    rotate_left
                    · (intro w' hSw; (try dsimp only at hSw); go_simp; (try with_reducible rfl))
                    try simp only [Act.put, List.setIfInBounds_toArray, List.set_cons_zero, List.set_cons_succ]
                    refine wpAnyH_ready (rs := [6]) (by as_aux_lemma => kernel_rfl) (by simp) ?_
                    refine AllReadyH.cons rfl (fun K hK => ?_) AllReadyH.nil
                    go_simp
                    go_wp2_with (go_at_call 35; refine (int_ _ _ hHeld.2.2 inn).mono ?_; rintro e wd ⟨rfl, fb⟩)
                    refine hK.out _ _ ⟨fb.cell_of hHeld.1 id, fb.cell_of hHeld.2.1 id, Nat.le_trans hHeld.2.2 fb.size⟩ (fun hHeld => ?_)
                    clear hK K
                    try simp only [Act.put, List.setIfInBounds_toArray, List.set_cons_zero, List.set_cons_succ]
                    refine wpAnyH_take (i := 7) (v := ?_) rfl (by as_aux_lemma => kernel_rfl) (by as_aux_lemma => kernel_rfl) (by as_aux_lemma => kernel_rfl) (fun _ _ _ h => h) (Or.inl ⟨by rfl, ?_⟩) (by assumption) ?_
                    rotate_left
                    · (intro w' hSw; (try dsimp only at hSw); go_simp; (try with_reducible rfl))
                    try simp only [Act.put, List.setIfInBounds_toArray, List.set_cons_zero, List.set_cons_succ]
                    refine wpAnyH_take (i := 8) (v := ?_) rfl (by as_aux_lemma => kernel_rfl) (by as_aux_lemma => kernel_rfl) (by as_aux_lemma => kernel_rfl) (fun _ _ _ h => h) (Or.inl ⟨by rfl, ?_⟩) (by assumption) ?_
                    rotate_left
                    · (intro w' hSw; (try dsimp only at hSw); go_simp; (try with_reducible rfl))
                    try simp only [Act.put, List.setIfInBounds_toArray, List.set_cons_zero, List.set_cons_succ]
                    refine wpAnyH_done (by as_aux_lemma => kernel_rfl) ?_ _
                    go_simp
                    go_wp2_with fail
                    go_meet
                    exact ⟨_, rfl, said5 x HK.out, (((F5.trans G5 (fun _ _ e => e)).drew.trans fa (fun _ _ e => e)).trans fb (fun _ _ e => e))⟩
                  · have HK := Lib.hid hk
                    simp only [hk]
                    clear hk
                    have d5 := HCE.out wb G5 12 _ rfl
                    have qd1 : ¬ (9223372036854775807 < sb0.size + 1) := by omega
                    have qd2 : ¬ (9223372036854775807 < sb0.size + 1 + (Scr.hexB x.b).size) := by omega
                    go_wp2_with fail
                    refine (rhex_ x.b _ _ (hsB.no ((FWq.trans F5 (fun _ _ e => e)).trans G5 (fun _ _ e => e))) b8 lvb).mono ?_
                    rintro e wc ⟨rfl, fc⟩
                    go_wp2_with fail
                    go_meet
                    exact ⟨_, rfl, by rw [← HS0.out]; exact said6 x HK.out, (F5.trans G5 (fun _ _ e => e)).trans fc (fun _ _ e => e)⟩
                  · have HK := Lib.hid hk
                    all_goals rcases hk with hk | hk | hk
                    all_goals simp only [hk]
                    all_goals (
                      clear hk
                      go_wp2_with fail
                      go_meet
                      exact ⟨_, rfl, by rw [← HS0.out]; exact said7 x HK.out, F5.trans G5 (fun _ _ e => e)⟩)
                  · have HK := Lib.hid hk
                    simp only [hk]
                    clear hk
                    have d3 := HCE.out wb G5 3 _ rfl
                    have qe1 : ¬ (9223372036854775807 < sb0.size + 1) := by omega
                    have qe2 : ¬ (9223372036854775807 < sb0.size + 1 + (Scr.itoaB x.n).size) := by omega
                    go_wp2_with fail
                    refine (int_ _ _ b8 inn).mono ?_
                    rintro e wc ⟨rfl, fc⟩
                    go_wp2_with fail
                    go_meet
                    exact ⟨_, rfl, by rw [← HS0.out]; exact said10 x HK.out, (F5.trans G5 (fun _ _ e => e)).trans fc (fun _ _ e => e)⟩
                case rest =>
                  obtain ⟨sb, rfl, hsb, fx⟩ := hcut
                  have HSB := Lib.hid hsb
                  have hss := said_size HVV.out
                  rw [← hsb, ByteArray.size_append] at hss
                  have e1 : (⟨#[10]⟩ : ByteArray).size = 1 := rfl
                  have q1 : ¬ (9223372036854775807 < sb.size + 1) := by omega
                  clear hsb
                  have HOX := Lib.hid (HOWN.out.no fx)
                  obtain ⟨i0, hi0, hz0, hz1, hz2⟩ := info_parts Tryd.info5
                  have HI := Lib.hid hi0
                  have HZ0 := Lib.hid hz0
                  have HZ1 := Lib.hid hz1
                  have HZ2 := Lib.hid hz2
                  clear hi0 hz0 hz1 hz2
                  go_wp2_with (at_builtin; refine wpList_append_ownT _ rfl _ _ 43 9 rfl wn4.heap.size i0 Tryd.underlying43 Tryd.underlying9 HI.out HZ0.out HZ1.out HZ2.out _ _ rfl HOX.out (sb ++ ⟨#[10]⟩) rfl ?c1 ?c2 ?_)
                  case c1 => rw [byteCells_len, ByteArray.size_append]; omega
                  case c2 => exact (fq.trans fx (fun _ _ e => e)).size
                  intro v' w' hown2 hgr
                  have F2 : Fr No wn4 w' := fr_grown (fq.trans fx (fun _ _ e => e)) HOX.out hgr
                  have hown3 : OwnT w' wn4.heap.size v' (Lib.byteCells (out ++ Scr.saidB x).data.toList) := by
                    rw [← HSB.out]
                    simpa [byteCells_append, ByteArray.toList_data_app] using hown2
                  have HO2 := Lib.hid hown3
                  clear hown2 hown3 hgr
                  go_wp2_with fail
                  go_roundw
                  case rel =>
                    refine ⟨j + 1, out ++ Scr.saidB x, by go_num, by omega, by rw [ByteArray.size_append]; have := said_size HVV.out; omega, HO2.out, ?_, F2⟩
                    rw [HPF.out, HDR.out, Scr.printFrom, if_neg hbig]
                  case measure => simp [intOf]; omega
            · obtain rfl : j = evs.length := by omega
              rw [List.drop_length] at HPF
              by_cases hbig : 65536 < out.size
              · have qb : ¬ (out.size : Int) ≤ 65536 := by omega
                have qb2 : (65536 : Int) < (out.size : Int) := by omega
                go_wp2_with fail
                go_ret2
                refine ⟨?_, FWq⟩
                have hp : Scr.print c evs = (⟨#[]⟩, 3) := by
                  unfold Scr.print
                  rw [if_neg (by rw [HANY.out]; simp), if_neg hlong, HPF.out, Scr.printFrom, if_pos hbig]
                rw [hp]
                rfl
              · have qb : (out.size : Int) ≤ 65536 := by omega
                have qb2 : ¬ (65536 : Int) < (out.size : Int) := by omega
                have hcv := run_convert_sl _ _ _ (HOWN.out.at_ (Nat.le_trans h8 FN.size))
                have ee : (⟨out.data.toList.toArray⟩ : ByteArray) = out := by cases out; simp
                rw [ee] at hcv
                clear ee
                go_wp2_with fail
                go_ret2
                refine ⟨?_, FWq⟩
                have hp : Scr.print c evs = (out, 0) := by
                  unfold Scr.print
                  rw [if_neg (by rw [HANY.out]; simp), if_neg hlong, HPF.out, Scr.printFrom, if_neg hbig]
                rw [hp]
                rfl
end Go.Proofs.YtkcgijidgppeiaaDoor
