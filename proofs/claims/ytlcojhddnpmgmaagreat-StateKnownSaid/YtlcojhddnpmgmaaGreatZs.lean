/- The first sentence of every statement: a thing is made once, though it is asked twice. Walked. -/
import Derived.Test.YtlcojhddnpmgmaaGreatZr
import Derived.Outline
namespace Go.Proofs.YtlcojhddnpmgmaaGreat
open Go.RowKit

theorem new1 (root : Nat) : Instr.findNow (.int .i64) (.int .i64 1) (newCon root).ths.toList 0 = some (some (0, .pointer (some ⟨root, 0, none⟩))) := rfl
theorem new2 (root x : Nat) : Instr.findNow (.int .i64) (.int .i64 1) ((newCon root).ths.push { key := .int .i64 2, val := .pointer (some ⟨x, 0, none⟩), born := (newCon root).tc }).toList 0 = some (some (0, .pointer (some ⟨root, 0, none⟩))) := rfl
theorem new3 (root : Nat) : Instr.findNow (.int .i64) (.int .i64 2) (newCon root).ths.toList 0 = some none := rfl
theorem new4 (root x m : Nat) : Instr.findNow .string (.string ⟨#[102]⟩) ((tick (newCon root)).file x m).ins.toList 0 = some (some (0, .int .i64 2)) := rfl
theorem Tryz.size41 : (Tryz.prog.info? 41).map (·.size) = some 14 := by kernel_rfl

/-- so much is done of the two requests' region; n operations are to come. -/
def AwI (L : Loc) (w1 : World) (n : Nat) (listed : Array Bool) (a : Act) (w : World) : Prop :=
  ∃ b0 b1 b2 b3 b4 b5 b6 b7 b8 b9 b10 b11 : Bool, ∃ v3 v4 v12 v13 v14 v15 v16 v17 v18 v19 : Value, n = (!b0).toNat + (!b1).toNat + (!b2).toNat + (!b3).toNat + (!b4).toNat + (!b5).toNat + (!b6).toNat + (!b7).toNat + (!b8).toNat + (!b9).toNat + (!b10).toNat + (!b11).toNat ∧ listed = #[b0, b1, b2, b3, b4, b5, b6, b7, b8, b9, b10, b11] ∧
    a = ⟨#[.bool false, .pointer (some ⟨L.s, 0, none⟩), .pointer (some ⟨w1.heap.size, 0, none⟩), v3, v4, undef, .pointer (some ⟨L.s, 0, none⟩), .pointer (some ⟨L.s, 0, none⟩), .bool false, .agg (req 0 1 ⟨#[47, 102]⟩), .pointer (some ⟨w1.heap.size, 0, none⟩), .pointer (some ⟨w1.heap.size, 2, none⟩), v12, v13, v14, v15, v16, v17, v18, v19, undef, undef, undef, undef, undef, undef, undef, undef, undef, undef, undef, undef, undef, undef, undef, undef, undef, undef, undef], []⟩ ∧
    Aw L w1 b0 b1 b2 b3 b4 b5 b6 b7 b8 b9 b10 b11 v3 v4 v12 v13 v14 v15 v16 v17 v18 v19 w

set_option maxRecDepth 100000 in
set_option maxHeartbeats 3200000 in
theorem awake_ (w0 : World) : Calls Tryz.prog 13 #[] w0 fun e w' => e = .returned (.bool true) ∧ Fr No w0 w' := by
  go_enter Tryz.func13, Tryz.ntmps13
  go_wp2_with fail
  refine (state_new _).mono ?_
  rintro e w1 ⟨L, rfl, f1, a1, l1⟩
  have F1 := Lib.hid f1
  have A1 := Lib.hid a1
  clear f1 a1
  go_wp2_with fail
  rename_i K hKK
  refine wp_region_any (by kernel_rfl) ?_
  refine wpAny_inv (AwI L w1) ?step ?done _ _ _ _ ?start
  case start =>
    have f : Fr No w1 (w1.alloc (.cells (req 1 1 ⟨#[47, 102]⟩) 41)).drew := ((Fr.refl w1).alloc _).drew
    exact ⟨false, false, false, false, false, false, false, false, false, false, false, false, undef, undef, undef, undef, undef, undef, undef, undef, undef, undef, rfl, rfl, rfl, { fr := f.of_no, rb := new_at w1 (.cells (req 1 1 ⟨#[47, 102]⟩) 41), tn := A1.out.turn, m0 := (fun e => nomatch e), m1 := (fun e => nomatch e), m2 := (fun e => nomatch e), m3 := (fun e => nomatch e), m4 := (fun e => nomatch e), m5 := (fun e => nomatch e), m6 := (fun e => nomatch e), m7 := (fun e => nomatch e), s0 := fun _ => A1.out.no f, s1 := (fun e => nomatch e), g8 := (fun e => nomatch e), g9 := (fun e => nomatch e), ne := (fun e => nomatch e), o10 := (fun e => nomatch e), o11 := (fun e => nomatch e), o6 := (fun e => nomatch e), o3 := (fun e => nomatch e), o7 := (fun e => nomatch e) }⟩
  case done =>
    rintro n listed a w ⟨b0, b1, b2, b3, b4, b5, b6, b7, b8, b9, b10, b11, v3, v4, v12, v13, v14, v15, v16, v17, v18, v19, hn, rfl, rfl, h⟩ hr
    clear hn
    have hno := List.eq_nil_iff_forall_not_mem.1 hr
    obtain rfl : b0 = true := by
      rcases Bool.eq_false_or_eq_true b0 with e | e
      · exact e
      · exfalso
        subst e
        refine absurd ?_ (hno 0)
        refine mem_ready.2 ⟨rfl, _, rfl, ?_⟩
        intro e he hb
        exact absurd he (by simp)
    obtain rfl : b1 = true := by
      rcases Bool.eq_false_or_eq_true b1 with e | e
      · exact e
      · exfalso
        subst e
        refine absurd ?_ (hno 1)
        refine mem_ready.2 ⟨rfl, _, rfl, ?_⟩
        intro e he hb
        exact absurd he (by simp)
    obtain rfl : b2 = true := by
      rcases Bool.eq_false_or_eq_true b2 with e | e
      · exact e
      · exfalso
        subst e
        refine absurd ?_ (hno 2)
        refine mem_ready.2 ⟨rfl, _, rfl, ?_⟩
        intro e he hb
        simp at he
        subst he
        all_goals first | rfl | exact absurd hb (by decide)
    obtain rfl : b3 = true := by
      rcases Bool.eq_false_or_eq_true b3 with e | e
      · exact e
      · exfalso
        subst e
        refine absurd ?_ (hno 3)
        refine mem_ready.2 ⟨rfl, _, rfl, ?_⟩
        intro e he hb
        simp at he
        rcases he with rfl | rfl | rfl
        all_goals first | rfl | exact absurd hb (by decide)
    obtain rfl : b4 = true := by
      rcases Bool.eq_false_or_eq_true b4 with e | e
      · exact e
      · exfalso
        subst e
        refine absurd ?_ (hno 4)
        refine mem_ready.2 ⟨rfl, _, rfl, ?_⟩
        intro e he hb
        exact absurd he (by simp)
    obtain rfl : b5 = true := by
      rcases Bool.eq_false_or_eq_true b5 with e | e
      · exact e
      · exfalso
        subst e
        refine absurd ?_ (hno 5)
        refine mem_ready.2 ⟨rfl, _, rfl, ?_⟩
        intro e he hb
        exact absurd he (by simp)
    obtain rfl : b6 = true := by
      rcases Bool.eq_false_or_eq_true b6 with e | e
      · exact e
      · exfalso
        subst e
        refine absurd ?_ (hno 6)
        refine mem_ready.2 ⟨rfl, _, rfl, ?_⟩
        intro e he hb
        simp at he
        rcases he with rfl | rfl
        all_goals first | rfl | exact absurd hb (by decide)
    obtain rfl : b7 = true := by
      rcases Bool.eq_false_or_eq_true b7 with e | e
      · exact e
      · exfalso
        subst e
        refine absurd ?_ (hno 7)
        refine mem_ready.2 ⟨rfl, _, rfl, ?_⟩
        intro e he hb
        simp at he
        rcases he with rfl | rfl | rfl
        all_goals first | rfl | exact absurd hb (by decide)
    obtain rfl : b8 = true := by
      rcases Bool.eq_false_or_eq_true b8 with e | e
      · exact e
      · exfalso
        subst e
        refine absurd ?_ (hno 8)
        refine mem_ready.2 ⟨rfl, _, rfl, ?_⟩
        intro e he hb
        exact absurd he (by simp)
    obtain rfl : b9 = true := by
      rcases Bool.eq_false_or_eq_true b9 with e | e
      · exact e
      · exfalso
        subst e
        refine absurd ?_ (hno 9)
        refine mem_ready.2 ⟨rfl, _, rfl, ?_⟩
        intro e he hb
        exact absurd he (by simp)
    obtain rfl : b10 = true := by
      rcases Bool.eq_false_or_eq_true b10 with e | e
      · exact e
      · exfalso
        subst e
        refine absurd ?_ (hno 10)
        refine mem_ready.2 ⟨rfl, _, rfl, ?_⟩
        intro e he hb
        simp at he
        rcases he with rfl | rfl | rfl | rfl | rfl | rfl | rfl | rfl | rfl | rfl | rfl | rfl | rfl
        all_goals first | rfl | exact absurd hb (by decide)
    obtain rfl : b11 = true := by
      rcases Bool.eq_false_or_eq_true b11 with e | e
      · exact e
      · exfalso
        subst e
        refine absurd ?_ (hno 11)
        refine mem_ready.2 ⟨rfl, _, rfl, ?_⟩
        intro e he hb
        simp at he
        rcases he with rfl | rfl | rfl | rfl | rfl | rfl | rfl | rfl | rfl | rfl | rfl | rfl | rfl | rfl
        all_goals first | rfl | exact absurd hb (by decide)
    obtain ⟨x, m, r, v, b, c, a2, k2, s2⟩ := h.s1 rfl
    obtain ⟨g, cs, rfl, hg1, hg2, _, _, hg3⟩ := h.g8 rfl
    obtain ⟨g', cs', rfl, hg1', hg2', _, _, hg3'⟩ := h.g9 rfl
    obtain ⟨b', c', e19⟩ := h.m7 rfl
    have e1 := (hg3 rfl).symm.trans (h.m3 rfl)
    have e2 := (hg3' rfl).symm.trans e19
    cases e1
    cases e2
    clear hr hno hg3 hg3'
    show K _ _
    refine hKK _ _ ?_
    clear hKK
    have HA := Lib.hid a2
    have HK := Lib.hid k2
    have HB := Lib.hid h.rb
    have FR := Lib.hid h.fr
    have T := Lib.hid h.tn
    have G1 := Lib.hid hg2
    have G2 := Lib.hid hg2'
    have c2 : w.cell? ⟨w1.heap.size, 2, none⟩ = some (.int .i64 1) := by rw [cell_at h.rb]; rfl
    have z2 := frozen_at h.rb 2
    have fs : Fr (fun k => k = w1.heap.size) w (w.setCell ⟨w1.heap.size, 2, none⟩ (.int .i64 2)) := Fr.setCell (S := fun k => k = w1.heap.size) (p := ⟨w1.heap.size, 2, none⟩) (Fr.refl _) (.inl rfl) _
    have AS : Hid (At (w.setCell ⟨w1.heap.size, 2, none⟩ (.int .i64 2)) L { (tick (newCon L.root)).file x m with row := .pointer (some ⟨r, 0, none⟩) }) := Lib.hid (a2.req h.rb fs)
    have KS : Hid ((w.setCell ⟨w1.heap.size, 2, none⟩ (.int .i64 2)).heap[r]? = some (.cells #[.int .i64 0, .int .i64 0, .int .i64 1, v] 119 (0, 0))) := Lib.hid (fs.block_of k2 (by intro e; have := k2; rw [e, h.rb] at this; simp at this))
    have RS : Hid ((w.setCell ⟨w1.heap.size, 2, none⟩ (.int .i64 2)).heap[w1.heap.size]? = some (.cells (req 2 1 ⟨#[47, 102]⟩) 41 (0, 0))) := Lib.hid (by simpa [req] using setCell_at h.rb 2 (.int .i64 2))
    have F2 := Lib.hid (h.fr.trans fs (fun j hj e => by omega))
    clear h hg2 hg2' a2 k2 s2
    go_wp2_with (refine wpList_load_row rfl 41 (.tmp 2) rfl w1.heap.size rfl 41 _ (0, 0) _ RS.out Tryz.underlying41 rfl Tryz.size41 ?_)
    refine (request_ 2 1 _ _).mono ?_
    rintro e w3 ⟨rfl, f3⟩
    have KA := Lib.hid (f3.block_of (fs.block_of G1.out (by omega)) id)
    have KB := Lib.hid (f3.block_of (fs.block_of G2.out (by omega)) id)
    have HT := Lib.hid (apply_there w3 L _ (AS.out.no f3) r v (.int .i64 2) 0 rfl (f3.block_of KS.out id) (by simp [tick, newCon, Con.file]) (new2 L.root x) (new4 L.root x m))
    have F3 := Lib.hid (F2.out.trans f3 (fun _ _ e => e.elim))
    clear fs c2 z2 f3
    generalize w.setCell ⟨w1.heap.size, 2, none⟩ (.int .i64 2) = ws at *
    unfold rep at HT KA KB
    go_wp2_with fail
    with_reducible refine HT.out.mono ?_
    rintro e w4 ⟨r', v', b'', c'', rfl, a4, k4, s4, f4⟩
    have f5 : Fr No w4 (w4.alloc (.cells #[.int .i64 7, .int .i64 0, .int .i64 0, .int .i64 0, .int .i64 0, .bool false, .slice none 0 0, .slice none 0 0] 29)) := (Fr.refl w4).alloc _
    have nt : ∀ k, w1.heap.size ≤ k → ¬ Turn L k := fun k hk e => by have := T.out k e; omega
    have ca : (w4.alloc (.cells #[.int .i64 7, .int .i64 0, .int .i64 0, .int .i64 0, .int .i64 0, .bool false, .slice none 0 0, .slice none 0 0] 29)).cell? ⟨g, 1, none⟩ = some (.int .i64 2) := by rw [cell_at (f5.block_of (f4.block_of KA.out (nt g (by omega))) id)]; rfl
    have cb : (w4.alloc (.cells #[.int .i64 7, .int .i64 0, .int .i64 0, .int .i64 0, .int .i64 0, .bool false, .slice none 0 0, .slice none 0 0] 29)).cell? ⟨g', 1, none⟩ = some (.int .i64 2) := by rw [cell_at (f5.block_of (f4.block_of KB.out (nt g' (by omega))) id)]; rfl
    have FZ : Hid (Fr No w0 (w4.alloc (.cells #[.int .i64 7, .int .i64 0, .int .i64 0, .int .i64 0, .int .i64 0, .bool false, .slice none 0 0, .slice none 0 0] 29))) := Lib.hid ((((F1.out.of_no (S := Turn L)).trans F3.out (fun _ _ e => e)).trans f4 (fun _ _ e => e)).trans f5 (fun _ _ e => e.elim) |>.no (fun k hk e => by rcases e with e | e | e | e | e <;> omega))
    clear a4 k4 s4 f4 f5 nt HT
    go_wp2_with fail
    go_ret
    exact ⟨rfl, FZ.out⟩
  case step =>
    clear hKK
    rintro n listed a w ⟨b0, b1, b2, b3, b4, b5, b6, b7, b8, b9, b10, b11, v3, v4, v12, v13, v14, v15, v16, v17, v18, v19, hn, rfl, rfl, h⟩ i hi
    have hr := mem_ready.1 hi
    clear hi
    obtain ⟨h0, o, ho, hd⟩ := hr
    match i, h0, ho, hd with

    | 0, h0, ho, hd =>
      obtain rfl : b0 = false := h0
      obtain rfl := Option.some.inj ho
      refine ⟨n - 1, by subst hn; simp [Bool.toNat] <;> omega, ?_⟩
      clear h0 ho hd
      refine wpOp_step rfl (fun K hK => ?_)
      rw [if_pos (show Region.wanted _ _ = true from rfl)]
      go_simp
      exact hK _ _ ⟨true, b1, b2, b3, b4, b5, b6, b7, b8, b9, b10, b11, v3, v4, .pointer (some ⟨L.s, 0, none⟩), v13, v14, v15, v16, v17, v18, v19, by subst hn; simp [Bool.toNat] <;> omega, rfl, rfl, { h with m0 := fun _ => rfl }⟩
    | 1, h0, ho, hd =>
      obtain rfl : b1 = false := h0
      obtain rfl := Option.some.inj ho
      refine ⟨n - 1, by subst hn; simp [Bool.toNat] <;> omega, ?_⟩
      clear h0 ho hd
      refine wpOp_step rfl (fun K hK => ?_)
      rw [if_pos (show Region.wanted _ _ = true from rfl)]
      refine wp_load_row 41 (.tmp 2) rfl w1.heap.size rfl 41 _ (0, 0) _ h.rb Tryz.underlying41 rfl Tryz.size41 ?_
      exact hK _ _ ⟨b0, true, b2, b3, b4, b5, b6, b7, b8, b9, b10, b11, v3, v4, v12, .agg (req 1 1 ⟨#[47, 102]⟩), v14, v15, v16, v17, v18, v19, by subst hn; simp [Bool.toNat] <;> omega, rfl, rfl, { h with m1 := fun _ => rfl }⟩
    | 2, h0, ho, hd =>
      obtain rfl : b2 = false := h0
      obtain rfl := Option.some.inj ho
      have d1 : b1 = true := hd ⟨1, Ground.data⟩ (by simp) rfl
      refine ⟨n - 1, by subst hn; simp [Bool.toNat] <;> omega, ?_⟩
      clear h0 ho hd
      refine wpOp_step rfl (fun K hK => ?_)
      rw [if_pos (show Region.wanted _ _ = true from rfl)]
      obtain rfl := h.m1 d1
      go_simp
      refine (request_ 1 1 _ w).mono ?_
      rintro e w' ⟨rfl, f⟩
      have h' := h.no f
      exact hK _ _ ⟨_, _, true, _, _, _, _, _, _, _, _, _, _, _, _, _, .agg (req 1 1 ⟨#[47, 102]⟩), _, _, _, _, _, by subst hn; simp [Bool.toNat] <;> omega, rfl, rfl, { h' with m2 := fun _ => rfl }⟩
    | 3, h0, ho, hd =>
      obtain rfl : b3 = false := h0
      obtain rfl := Option.some.inj ho
      have d0 : b0 = true := hd ⟨0, Ground.data⟩ (by simp) rfl
      have d2 : b2 = true := hd ⟨2, Ground.data⟩ (by simp) rfl
      refine ⟨n - 1, by subst hn; simp [Bool.toNat] <;> omega, ?_⟩
      clear h0 ho hd
      refine wpOp_step rfl (fun K hK => ?_)
      rw [if_pos (show Region.wanted _ _ = true from rfl)]
      obtain rfl := h.m0 d0
      obtain rfl := h.m2 d2
      go_simp
      refine (apply_new w L (newCon L.root) (h.s0 rfl) rfl (by simp [newCon]) (by simp [newCon]) (new1 _) (fun x => new2 _ x) (new3 _) rfl rfl).mono ?_
      rintro e w' ⟨x, m, r, v, b, c, rfl, a', k', s', f⟩
      exact hK _ _ ⟨_, _, _, true, _, _, _, _, _, _, _, _, _, _, _, _, _, .agg (rep 0 2), _, _, _, _, by subst hn; simp [Bool.toNat] <;> omega, rfl, rfl, { h with fr := h.fr.trans f (fun _ _ e => e), rb := h.far_of f (Nat.le_refl _) h.rb, m3 := fun _ => rfl, o3 := fun _ => rfl, s0 := fun e => (by cases e), s1 := fun _ => ⟨x, m, r, v, b, c, a', k', s'⟩, g8 := fun e => by (obtain ⟨g, cs, e1, e2, e3, e4, e5, e6⟩ := h.g8 e; exact ⟨g, cs, e1, e2, h.far_of f (by omega) e3, e4, e5, fun e => nomatch h.o3 e⟩), g9 := fun e => by (obtain ⟨g, cs, e1, e2, e3, e4, e5, e6⟩ := h.g9 e; exact ⟨g, cs, e1, e2, h.far_of f (by omega) e3, e4, e5, e6⟩), o6 := fun _ => rfl }⟩
    | 4, h0, ho, hd =>
      obtain rfl : b4 = false := h0
      obtain rfl := Option.some.inj ho
      refine ⟨n - 1, by subst hn; simp [Bool.toNat] <;> omega, ?_⟩
      clear h0 ho hd
      refine wpOp_step rfl (fun K hK => ?_)
      rw [if_pos (show Region.wanted _ _ = true from rfl)]
      go_simp
      exact hK _ _ ⟨b0, b1, b2, b3, true, b5, b6, b7, b8, b9, b10, b11, v3, v4, v12, v13, v14, v15, .pointer (some ⟨L.s, 0, none⟩), v17, v18, v19, by subst hn; simp [Bool.toNat] <;> omega, rfl, rfl, { h with m4 := fun _ => rfl }⟩
    | 5, h0, ho, hd =>
      obtain rfl : b5 = false := h0
      obtain rfl := Option.some.inj ho
      refine ⟨n - 1, by subst hn; simp [Bool.toNat] <;> omega, ?_⟩
      clear h0 ho hd
      refine wpOp_step rfl (fun K hK => ?_)
      rw [if_pos (show Region.wanted _ _ = true from rfl)]
      refine wp_load_row 41 (.tmp 2) rfl w1.heap.size rfl 41 _ (0, 0) _ h.rb Tryz.underlying41 rfl Tryz.size41 ?_
      exact hK _ _ ⟨b0, b1, b2, b3, b4, true, b6, b7, b8, b9, b10, b11, v3, v4, v12, v13, v14, v15, v16, .agg (req 1 1 ⟨#[47, 102]⟩), v18, v19, by subst hn; simp [Bool.toNat] <;> omega, rfl, rfl, { h with m5 := fun _ => rfl }⟩
    | 6, h0, ho, hd =>
      obtain rfl : b6 = false := h0
      obtain rfl := Option.some.inj ho
      have d5 : b5 = true := hd ⟨5, Ground.data⟩ (by simp) rfl
      have d3 : b3 = true := hd ⟨3, Ground.chain⟩ (by simp) rfl
      refine ⟨n - 1, by subst hn; simp [Bool.toNat] <;> omega, ?_⟩
      clear h0 ho hd
      refine wpOp_step rfl (fun K hK => ?_)
      rw [if_pos (show Region.wanted _ _ = true from rfl)]
      obtain rfl := h.m5 d5
      go_simp
      refine (request_ 1 1 _ w).mono ?_
      rintro e w' ⟨rfl, f⟩
      have h' := h.no f
      exact hK _ _ ⟨_, _, _, _, _, _, true, _, _, _, _, _, _, _, _, _, _, _, _, _, .agg (req 1 1 ⟨#[47, 102]⟩), _, by subst hn; simp [Bool.toNat] <;> omega, rfl, rfl, { h' with m6 := fun _ => rfl, o6 := fun _ => d3 }⟩
    | 7, h0, ho, hd =>
      obtain rfl : b7 = false := h0
      obtain rfl := Option.some.inj ho
      have d4 : b4 = true := hd ⟨4, Ground.data⟩ (by simp) rfl
      have d6 : b6 = true := hd ⟨6, Ground.data⟩ (by simp) rfl
      refine ⟨n - 1, by subst hn; simp [Bool.toNat] <;> omega, ?_⟩
      clear h0 ho hd
      refine wpOp_step rfl (fun K hK => ?_)
      rw [if_pos (show Region.wanted _ _ = true from rfl)]
      obtain rfl : b3 = true := h.o6 d6
      obtain rfl := h.m4 d4
      obtain rfl := h.m6 d6
      obtain ⟨x, m, r, v, b, c, a2, k2, s2⟩ := h.s1 rfl
      go_simp
      refine (apply_again w L _ a2 r v b c rfl k2 s2).mono ?_
      rintro e w' ⟨b', c', rfl, f⟩
      have h' := h.no f
      exact hK _ _ ⟨_, _, _, _, _, _, _, true, _, _, _, _, _, _, _, _, _, _, _, _, _, .agg #[.int .i64 0, .int .i64 2, .int .i64 0, .int .i64 0, .int .i64 0, .bool false, .slice none 0 0, .slice (some ⟨b', 0, none⟩) 0 c'], by subst hn; simp [Bool.toNat] <;> omega, rfl, rfl, { h' with o7 := fun _ => rfl, m7 := fun _ => ⟨b', c', rfl⟩, g9 := fun e => by (obtain ⟨g, cs, e1, e2, e3, e4, e5, e6⟩ := h'.g9 e; exact ⟨g, cs, e1, e2, e3, e4, e5, fun e => nomatch h'.o7 e⟩) }⟩
    | 8, h0, ho, hd =>
      obtain rfl : b8 = false := h0
      obtain rfl := Option.some.inj ho
      refine ⟨n - 1, by subst hn; simp [Bool.toNat] <;> omega, ?_⟩
      clear h0 ho hd
      refine wpOp_step rfl (fun K hK => ?_)
      rw [if_pos (show Region.wanted _ _ = true from rfl)]
      go_simp
      have f : Fr No w (w.alloc (.cells (rep 0 0) 29)) := (Fr.refl w).alloc _
      have h' := h.no f
      exact hK _ _ ⟨_, _, _, _, _, _, _, _, true, _, _, _, .pointer (some ⟨w.heap.size, 0, none⟩), _, _, _, _, _, _, _, _, _, by subst hn; simp [Bool.toNat] <;> omega, rfl, rfl, { h' with g8 := fun _ => ⟨w.heap.size, rep 0 0, rfl, lt_of_block h.rb, new_at w _, rfl, rfl, fun e => nomatch h.o10 e⟩, ne := fun _ e => by (obtain ⟨g, cs, e1, e2, e3, _⟩ := h.g9 e; have := lt_of_block e3; intro e'; rw [e1] at e'; simp at e' <;> omega), o10 := fun _ => rfl }⟩
    | 9, h0, ho, hd =>
      obtain rfl : b9 = false := h0
      obtain rfl := Option.some.inj ho
      refine ⟨n - 1, by subst hn; simp [Bool.toNat] <;> omega, ?_⟩
      clear h0 ho hd
      refine wpOp_step rfl (fun K hK => ?_)
      rw [if_pos (show Region.wanted _ _ = true from rfl)]
      go_simp
      have f : Fr No w (w.alloc (.cells (rep 0 0) 29)) := (Fr.refl w).alloc _
      have h' := h.no f
      exact hK _ _ ⟨_, _, _, _, _, _, _, _, _, true, _, _, _, .pointer (some ⟨w.heap.size, 0, none⟩), _, _, _, _, _, _, _, _, by subst hn; simp [Bool.toNat] <;> omega, rfl, rfl, { h' with g9 := fun _ => ⟨w.heap.size, rep 0 0, rfl, lt_of_block h.rb, new_at w _, rfl, rfl, fun e => nomatch h.o11 e⟩, ne := fun e _ => by (obtain ⟨g, cs, e1, e2, e3, _⟩ := h.g8 e; have := lt_of_block e3; intro e'; rw [e1] at e'; simp at e' <;> omega), o11 := fun _ => rfl }⟩
    | 10, h0, ho, hd =>
      obtain rfl : b10 = false := h0
      obtain rfl := Option.some.inj ho
      have d8 : b8 = true := hd ⟨8, Ground.data⟩ (by simp) rfl
      have d3 : b3 = true := hd ⟨3, Ground.data⟩ (by simp) rfl
      have d9 : b9 = true := hd ⟨9, Ground.phase⟩ (by simp) rfl
      have d7 : b7 = true := hd ⟨7, Ground.chain⟩ (by simp) rfl
      refine ⟨n - 1, by subst hn; simp [Bool.toNat] <;> omega, ?_⟩
      clear h0 ho hd
      refine wpOp_step rfl (fun K hK => ?_)
      rw [if_pos (show Region.wanted _ _ = true from rfl)]
      obtain rfl := d3
      obtain ⟨g, cs, rfl, hlt, hg, hx, hz, _⟩ := h.g8 d8
      obtain rfl := h.m3 rfl
      have f : Fr (fun k => k = g) w (w.setRow g (rep 0 2)) := Fr.setRow (S := fun k => k = g) (Fr.refl w) (.inl rfl) _
      obtain ⟨q1, q2, q3⟩ := h.row hlt hg hx f
      refine wp_store_row 29 (.tmp 3) (.tmp 15) rfl g (rep 0 2) rfl rfl 29 cs hg Tryz.size29 hz (by simp [rep, Value.oneCell']) ?_
      exact hK _ _ ⟨_, _, _, _, _, _, _, _, _, _, true, _, _, _, _, _, _, _, _, _, _, _, by subst hn; simp [Bool.toNat] <;> omega, rfl, rfl, { h with fr := q1, rb := q2, s0 := fun e => (by cases e), s1 := fun _ => q3, g8 := fun _ => ⟨g, rep 0 2, rfl, hlt, setRow_at hg, rfl, rfl, fun _ => rfl⟩, g9 := fun e => by (obtain ⟨g', cs', rfl, e2, e3, e4⟩ := h.g9 e; have := h.ne d8 e; exact ⟨g', cs', rfl, e2, f.block_of e3 (by intro e'; rw [e'] at this; exact this rfl), e4⟩), o10 := fun _ => d8, o3 := fun _ => rfl }⟩
    | 11, h0, ho, hd =>
      obtain rfl : b11 = false := h0
      obtain rfl := Option.some.inj ho
      have d9 : b9 = true := hd ⟨9, Ground.data⟩ (by simp) rfl
      have d7 : b7 = true := hd ⟨7, Ground.data⟩ (by simp) rfl
      have d10 : b10 = true := hd ⟨10, Ground.chain⟩ (by simp) rfl
      have d3 : b3 = true := hd ⟨3, Ground.phase⟩ (by simp) rfl
      refine ⟨n - 1, by subst hn; simp [Bool.toNat] <;> omega, ?_⟩
      clear h0 ho hd
      refine wpOp_step rfl (fun K hK => ?_)
      rw [if_pos (show Region.wanted _ _ = true from rfl)]
      obtain rfl := d3
      obtain ⟨g, cs, rfl, hlt, hg, hx, hz, _⟩ := h.g9 d9
      obtain ⟨bb, cc, rfl⟩ := h.m7 d7
      have f : Fr (fun k => k = g) w (w.setRow g #[.int .i64 0, .int .i64 2, .int .i64 0, .int .i64 0, .int .i64 0, .bool false, .slice none 0 0, .slice (some ⟨bb, 0, none⟩) 0 cc]) := Fr.setRow (S := fun k => k = g) (Fr.refl w) (.inl rfl) _
      obtain ⟨q1, q2, q3⟩ := h.row hlt hg hx f
      refine wp_store_row 29 (.tmp 4) (.tmp 19) rfl g #[.int .i64 0, .int .i64 2, .int .i64 0, .int .i64 0, .int .i64 0, .bool false, .slice none 0 0, .slice (some ⟨bb, 0, none⟩) 0 cc] rfl rfl 29 cs hg Tryz.size29 hz (by simp [Value.oneCell']) ?_
      exact hK _ _ ⟨_, _, _, _, _, _, _, _, _, _, _, true, _, _, _, _, _, _, _, _, _, _, by subst hn; simp [Bool.toNat] <;> omega, rfl, rfl, { h with fr := q1, rb := q2, s0 := fun e => (by cases e), s1 := fun _ => q3, g9 := fun _ => ⟨g, #[.int .i64 0, .int .i64 2, .int .i64 0, .int .i64 0, .int .i64 0, .bool false, .slice none 0 0, .slice (some ⟨bb, 0, none⟩) 0 cc], rfl, hlt, setRow_at hg, rfl, rfl, fun _ => rfl⟩, g8 := fun e => by (obtain ⟨g', cs', rfl, e2, e3, e4⟩ := h.g8 e; have := h.ne e d9; exact ⟨g', cs', rfl, e2, f.block_of e3 (by intro e'; rw [e'] at this; exact this rfl), e4⟩), o11 := fun _ => d9, o7 := fun _ => d7 }⟩
    | k + 12, h0, ho, hd => exact absurd ho (by simp)
end Go.Proofs.YtlcojhddnpmgmaaGreat
