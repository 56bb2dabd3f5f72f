/- Walks over the small makers of a new state, and over its empty parts. -/
import Derived.Test.YtkcgijidgppeiaaRows
import Derived.Test.YtkcgijidgppeiaaShelf
import Derived.WalkKit
import Derived.WalkLawsBesides
import Derived.WalkSpells
import Derived.Lib.Hide
import Derived.Laws.FloatArith
namespace Go.Proofs.Ytkcgijidgppeiaa
open Go.RowKit

/-- an empty state lies at block b; its uses are the empty map at block u. -/
structure Bare (w : World) (b u : Nat) : Prop where
  lt : b < w.heap.size
  ult : u < w.heap.size
  tree : ∃ p, w.cell? ⟨b, 9, none⟩ = some (.pointer (some p))
  clock : w.cell? ⟨b, 2, none⟩ = some (.int .i64 0)
  uses : w.cell? ⟨b, 12, none⟩ = some (.map (some u))
  um : w.heap[u]? = some (.map #[] 0)

theorem Bare.below {w w' : World} {b u : Nat} (h : Bare w b u) (hb : Below w.heap.size w w') : Bare w' b u := by
  obtain ⟨p, hp⟩ := h.tree
  exact ⟨Nat.lt_of_lt_of_le h.lt hb.size, Nat.lt_of_lt_of_le h.ult hb.size, ⟨p, by rw [hb.cell h.lt]; exact hp⟩, by rw [hb.cell h.lt]; exact h.clock, by rw [hb.cell h.lt]; exact h.uses, by rw [hb.block u h.ult]; exact h.um⟩

theorem once_new (w : World) : Calls Try.prog 11 #[] w fun e w' => e = .returned (.pointer (some ⟨w.heap.size, 0, none⟩)) ∧ w' = w.alloc (.cells #[.pointer none, .pointer none, .pointer none, .pointer none, .bool true] 64) := by
  go_enter Try.func11, Try.ntmps11
  go_wp2
  go_ret
  exact ⟨rfl, rfl⟩

theorem tokens_new (w : World) : Calls Try.prog 13 #[] w fun e w' => ∃ o, e = .returned (.pointer (some ⟨w.heap.size, 0, none⟩)) ∧ w' = w.alloc o := by
  go_enter Try.func13, Try.ntmps13
  go_wp2
  go_ret
  exact ⟨_, rfl, rfl⟩

theorem directory_ (n : Int) (s : ByteArray) (w : World) : Calls Try.prog 22 #[.int .i64 n, .string s] w fun e w' => ∃ o o', e = .returned (.pointer (some ⟨w.heap.size + 1, 0, none⟩)) ∧ w' = (w.alloc o).alloc o' := by
  have hmm := @run_makeMap Try.prog
  go_enter Try.func22, Try.ntmps22
  go_wp2
  go_ret
  exact ⟨_, _, rfl, rfl⟩

theorem run_mapUpdate_first_int {P : Program} {w : World} {kk : IntKind} (mty kt et : TypeId) (r clock : Nat) (n : Int) (val : Value) (hm : P.underlying mty = some (.map kt et)) (hk : P.underlying kt = some (.int kk)) (hb : w.heap[r]? = some (.map #[] clock)) :
    (Instr.mapUpdate mty (.map (some r)) (.int kk n) val).run P w = .ok () { w with heap := w.heap.setIfInBounds r (.map #[{ key := .int kk n, val := val, born := clock }] (clock + 1)) } := by
  have hf : Instr.findNow (.int kk) (.int kk n) ([] : List MapEntry) 0 = some none := rfl
  have hc : (Instr.checkKey false 10000 kt (.int kk n)).run P w = .ok () w := MapKept.run_checkKey (k := .int kk n) hk (by simp [MapKept.IsKey]) false 9999
  simp [Instr.mapUpdate, run_underlying hm, MapKept.run_getObj_map hb, hc, MapKept.run_findKey hk hf, MapKept.run_setObj_map _ hb]

theorem below_setHeap {B : Nat} {a w : World} (h : Below B a w) {r : Nat} (hp : B ≤ r) (o : Obj) : Below B a { w with heap := w.heap.setIfInBounds r o } :=
  h.trans ⟨rfl, rfl, rfl, by simp, fun k hk => by
    show (w.heap.setIfInBounds r o)[k]? = _
    rw [Array.getElem?_setIfInBounds, if_neg (by omega)]⟩

set_option maxHeartbeats 400000 in
theorem tree_new (w : World) : Calls Try.prog 12 #[] w fun e w' => ∃ p, e = .returned (.pointer (some p)) ∧ Below w.heap.size w w' := by
  have hmm := @run_makeMap Try.prog
  go_enter Try.func12, Try.ntmps12
  go_wp2_with fail
  refine (directory_ _ _ _).mono ?_; rintro e w1 ⟨o, o', rfl, rfl⟩
  have hu := run_mapUpdate_first_int (P := Try.prog) (w := ((w.alloc (.map #[] 0)).alloc o).alloc o') (kk := .i64) 67 3 65 w.heap.size 0 1 (.pointer (some ⟨w.heap.size + 1 + 1, 0, none⟩)) Try.underlying67 Try.underlying3 (by
    rw [Below.heap_alloc _ _ _ (by simp; omega), Below.heap_alloc _ _ _ (by simp)]
    exact (MapKept.heap_alloc w _).1)
  go_wp2_with fail
  go_ret
  refine ⟨_, rfl, ?_⟩
  exact (below_setHeap ((((Below.refl _ _).alloc (Nat.le_refl _) _).alloc (by simp) _).alloc (by simp; omega) _) (Nat.le_refl _) _).alloc (by simp; omega) _

set_option maxHeartbeats 400000 in
theorem state_new (w : World) : Calls Try.prog 6 #[] w fun e w' => ∃ b u, e = .returned (.pointer (some ⟨b, 0, none⟩)) ∧ Below w.heap.size w w' ∧ Bare w' b u := by
  have hmm := @run_makeMap Try.prog
  go_enter Try.func6, Try.ntmps6
  go_wp2_with fail
  refine (once_new _).mono ?_; rintro e w1 ⟨rfl, rfl⟩
  go_wp2_with fail
  refine (tree_new _).mono ?_; rintro e w2 ⟨p, rfl, hb2⟩
  go_wp2_with fail
  refine (tokens_new _).mono ?_; rintro e w3 ⟨o3, rfl, rfl⟩
  go_wp2_with fail
  go_ret
  have hs := hb2.size
  simp at hs
  have hB : Below w.heap.size w w2 := ((Below.refl _ _).alloc (Nat.le_refl _) _).trans (hb2.mono (by simp))
  refine ⟨w2.heap.size + 1 + 1 + 1, w2.heap.size + 1 + 1, rfl, (((hB.alloc (by omega) _).alloc (by simp; omega) _).alloc (by simp; omega) _).alloc (by simp; omega) _, ?_⟩
  have e0 : ∀ (X : World) (c : Array Value) (t k : Nat) (v : Value), c[k]? = some v → (X.alloc (.cells c t)).cell? ⟨X.heap.size, k, none⟩ = some v := by
    intro X c t k v h
    simp only [World.cell?, (MapKept.heap_alloc X _).1]
    simpa using h
  have n3 : (((w2.alloc o3).alloc (.map #[] 0)).alloc (.map #[] 0)).heap.size = w2.heap.size + 1 + 1 + 1 := by simp
  have n2 : ((w2.alloc o3).alloc (.map #[] 0)).heap.size = w2.heap.size + 1 + 1 := by simp
  refine ⟨by simp, by simp, ⟨p, ?_⟩, ?_, ?_, ?_⟩
  · rw [← n3]; exact e0 _ _ _ _ _ rfl
  · rw [← n3]; exact e0 _ _ _ _ _ rfl
  · rw [← n3]; exact e0 _ _ _ _ _ rfl
  · rw [Below.heap_alloc _ _ _ (by simp), ← n2]; exact (MapKept.heap_alloc _ _).1

set_option maxHeartbeats 400000 in
theorem made_ (b u : Nat) (w : World) (h : Bare w b u) : Calls Try.prog 18 #[.pointer (some ⟨b, 0, none⟩)] w fun e w' => e = .returned (.bool true) ∧ w = w' := by
  obtain ⟨p, hp⟩ := h.tree
  go_enter Try.func18, Try.ntmps18
  go_wp2
  go_ret
  exact ⟨rfl, rfl⟩

set_option maxHeartbeats 400000 in
theorem clock_ (b u : Nat) (w : World) (h : Bare w b u) : Calls Try.prog 16 #[.pointer (some ⟨b, 0, none⟩)] w fun e w' => e = .returned (.int .i64 0) ∧ w = w' := by
  have hp := h.clock
  go_enter Try.func16, Try.ntmps16
  go_wp2_with fail
  refine (made_ b u _ h).mono ?_; rintro e w3 ⟨rfl, rfl⟩
  go_wp2_with fail
  go_ret
  exact ⟨rfl, rfl⟩


set_option maxHeartbeats 400000 in
theorem ins_ (w : World) (f : Value) : Calls Try.prog 32 #[.slice none 0 0, .int .i64 0, .int .i64 0, f] w fun e w' => e = .returned (.tuple #[]) ∧ w = w' := by
  go_enter Try.func32, Try.ntmps32
  go_wp2
  refine wp_loop_rounds 1 ?_; rw [rounds_succ]
  go_wp2
  go_end0
  exact ⟨rfl, rfl⟩

set_option maxRecDepth 100000 in
set_option maxHeartbeats 400000 in
theorem pdq_ (w : World) (f : Value) (l : Int) : Calls Try.prog 27 #[.slice none 0 0, .int .i64 0, .int .i64 0, .int .i64 l, f] w fun e w' => e = .returned (.tuple #[]) ∧ w = w' := by
  go_enter Try.func27, Try.ntmps27
  go_wp2_with fail
  refine wp_loop_rounds 1 ?_; rw [rounds_succ]
  go_wp2_with (go_at_call 32; refine (ins_ _ _).mono ?_; rintro e w1 ⟨rfl, rfl⟩)
  exact bodyPost_ret (results_none rfl _ _ _) rfl ⟨rfl, rfl⟩

set_option maxHeartbeats 400000 in
theorem sortf_ (w : World) (f : Value) : Calls Try.prog 19 #[.slice none 0 0, f] w fun e w' => e = .returned (.tuple #[]) ∧ w = w' := by
  go_enter Try.func19, Try.ntmps19
  go_wp2_with fail
  refine (Try.bits_Len _ _ (by omega) (by omega)).mono ?_
  rintro e w1 ⟨rfl, rfl⟩
  go_wp2_with fail
  refine (pdq_ _ _ _).mono ?_
  rintro e w1 ⟨rfl, rfl⟩
  go_wp2_with fail
  go_end0
  exact ⟨rfl, rfl⟩

set_option maxHeartbeats 400000 in
/-- a new state holds no stripe. -/
theorem stripes_ (b u : Nat) (w : World) (h : Bare w b u) : Calls Try.prog 10 #[.pointer (some ⟨b, 0, none⟩)] w fun e w' => e = .returned (.slice none 0 0) ∧ Below w.heap.size w w' := by
  have hp := h.uses
  have hr := run_range_map (P := Try.prog) w 45 29 37 u #[] 0 Try.underlying45 h.um
  have hn : ∀ ty, (Instr.next (.pointer (some ⟨w.heap.size, 0, none⟩)) false ty).run Try.prog (w.alloc (.mapIter (some u) 0 #[] 0)) = .ok (.tuple #[.bool false]) (w.alloc (.mapIter (some u) 0 #[] 0)) := by
    intro ty
    rcases run_next_map (P := Try.prog) w ty u 0 0 #[] #[] 0 h.um (by simp) (Nat.le_refl _) with ⟨_, h1⟩ | ⟨e, he, _⟩
    · exact h1
    · simp [leftOf] at he
  go_enter Try.func10, Try.ntmps10
  go_wp2_with fail
  refine (made_ b u _ h).mono ?_; rintro e w3 ⟨rfl, rfl⟩
  go_wp2_with fail
  refine wp_loop_rounds 1 ?_; rw [rounds_succ]
  go_wp2_with (go_at_call 19; refine (sortf_ _ _).mono ?_; rintro e w1 ⟨rfl, rfl⟩)
  go_ret
  exact ⟨rfl, (Below.refl _ _).alloc (Nat.le_refl _) _⟩

set_option maxHeartbeats 400000 in
theorem live_ (b u : Nat) (w : World) (h : Bare w b u) : Calls Try.prog 5 #[.pointer (some ⟨b, 0, none⟩)] w fun e w' => e = .returned (.int .i64 0) ∧ Below w.heap.size w w' := by
  go_enter Try.func5, Try.ntmps5
  go_wp2_with fail
  refine (stripes_ b u _ h).mono ?_; rintro e w1 ⟨rfl, hb1⟩
  go_wp2_with fail
  refine wp_loop_rounds 1 ?_; rw [rounds_succ]
  go_wp2_with fail
  go_ret
  exact ⟨rfl, hb1⟩

/-- 0 divided by 0: a NaN, whichever. -/
def IsNaN (v : Value) : Prop := ∃ x, v = .float .f64 x ∧ FloatKind.f64.format.order x x = none

theorem nan_order (b r : Nat) (h1 : b % 9223372036854775808 = r) (h2 : 9218868437227405312 < r) : FloatKind.f64.format.order b b = none := by
  have e1 : FloatKind.f64.format.signWeight = 9223372036854775808 := by decide +kernel
  have e2 : FloatKind.f64.format.binade = 4503599627370496 := by decide +kernel
  have e3 : FloatKind.f64.format.infRung = 9218868437227405312 := by decide +kernel
  simp only [Ieee.Format.order, Ieee.Format.read, e1, e2, e3, h1]
  rw [if_neg (by omega), if_neg (by omega), if_neg (by omega)]
  rfl

theorem nan_cut (x y t : Nat) : FloatKind.f64.format.order ((Question.nanBits .f64 x y).cut t) ((Question.nanBits .f64 x y).cut t) = none := by
  refine nan_order _ _ rfl ?_
  have e : (Question.nanBits .f64 x y).cut t = (t % 2) * 9223372036854775808 + 9218868437227405312 + 1 + (t / 2) % 4503599627370495 := rfl
  rw [e]
  have h1 : (t / 2) % 4503599627370495 < 4503599627370495 := Nat.mod_lt _ (by omega)
  have h2 : t % 2 < 2 := Nat.mod_lt _ (by omega)
  generalize (t / 2) % 4503599627370495 = a at *
  generalize t % 2 = c at *
  omega

theorem run_nan {P : Program} (w : World) (t : TypeId) : ∃ x, (binOp .quo t (.float .f64 (floatOfInt .f64 0)) (.float .f64 (floatOfInt .f64 0))).run P w = .ok (.float .f64 x) w.drew ∧ FloatKind.f64.format.order x x = none := by
  have e : FloatKind.f64.format.div (floatOfInt .f64 0) (floatOfInt .f64 0) = none := by decide +kernel
  exact ⟨(Question.nanBits .f64 (floatOfInt .f64 0) (floatOfInt .f64 0)).cut (w.tape w.drawn (.nanBits .f64 (floatOfInt .f64 0) (floatOfInt .f64 0))), by
    simp [binOp, Op.floatArith, e, choose, Sem.run, Question.forced], nan_cut _ _ _⟩

set_option maxHeartbeats 400000 in
theorem part_ (b u : Nat) (w : World) (h : Bare w b u) : Calls Try.prog 7 #[.pointer (some ⟨b, 0, none⟩)] w fun e w' => ∃ v, e = .returned v ∧ IsNaN v ∧ Below w.heap.size w w' := by
  go_enter Try.func7, Try.ntmps7
  go_wp2_with fail
  refine (stripes_ b u _ h).mono ?_; rintro e w1 ⟨rfl, hb1⟩
  go_wp2_with fail
  refine wp_loop_rounds 1 ?_; rw [rounds_succ]
  go_wp2_with fail
  refine (live_ b u _ (h.below hb1)).mono ?_; rintro e w2 ⟨rfl, hb2⟩
  obtain ⟨x, hx, ho⟩ := run_nan (P := Try.prog) w2 26
  go_wp2_with fail
  go_ret
  exact ⟨_, rfl, ⟨x, rfl, ho⟩, (hb1.trans (hb2.mono hb1.size)).drew⟩

set_option maxHeartbeats 400000 in
theorem rows_ (b u : Nat) (w : World) (h : Bare w b u) : Calls Try.prog 9 #[.pointer (some ⟨b, 0, none⟩)] w fun e w' => e = .returned (.slice none 0 0) ∧ Below w.heap.size w w' := by
  go_enter Try.func9, Try.ntmps9
  go_wp2_with fail
  refine (clock_ b u _ h).mono ?_; rintro e w1 ⟨rfl, rfl⟩
  go_wp2_with fail
  refine (stripes_ b u _ h).mono ?_; rintro e w1 ⟨rfl, hb1⟩
  go_wp2_with fail
  refine wp_loop_rounds 1 ?_; rw [rounds_succ]
  go_wp2_with fail
  go_ret
  exact ⟨rfl, hb1⟩

set_option maxHeartbeats 400000 in
theorem best_ (w : World) : Calls Try.prog 15 #[.slice none 0 0] w fun e w' => e = .returned (.int .i64 (-1)) ∧ w = w' := by
  go_enter Try.func15, Try.ntmps15
  go_wp2_with fail
  refine wp_loop_rounds 1 ?_; rw [rounds_succ]
  go_wp2_with fail
  go_ret
  exact ⟨rfl, rfl⟩

set_option maxRecDepth 100000 in
set_option maxHeartbeats 400000 in
theorem victim_ (b u : Nat) (w : World) (h : Bare w b u) : Calls Try.prog 8 #[.pointer (some ⟨b, 0, none⟩), .slice none 0 0] w fun e w' => e = .returned (.tuple #[.agg #[.int .i64 0, .int .i64 0, .int .i64 0], .bool false]) ∧ Below w.heap.size w w' := by
  go_enter Try.func8, Try.ntmps8
  go_wp2_with fail
  have hb0 : Below w.heap.size w (w.alloc (.cells #[.int .i64 0, .int .i64 0, .int .i64 0] 29)) := (Below.refl _ _).alloc (Nat.le_refl _) _
  refine (rows_ b u _ (h.below hb0)).mono ?_; rintro e w1 ⟨rfl, hb1⟩
  have hc : ∀ j, j < 3 → w1.cell? ⟨w.heap.size, j, none⟩ = some (.int .i64 0) ∧ w1.frozen? ⟨w.heap.size, j, none⟩ = false := by
    intro j hj
    have hl : w.heap.size < (w.alloc (.cells #[.int .i64 0, .int .i64 0, .int .i64 0] 29)).heap.size := by simp
    rw [hb1.cell (p := ⟨w.heap.size, j, none⟩) hl, hb1.frozen (p := ⟨w.heap.size, j, none⟩) hl]
    have e0 := (MapKept.heap_alloc w (.cells #[.int .i64 0, .int .i64 0, .int .i64 0] 29)).1
    simp only [World.cell?, World.frozen?, e0]
    match j, hj with
    | 0, _ => exact ⟨rfl, rfl⟩
    | 1, _ => exact ⟨rfl, rfl⟩
    | 2, _ => exact ⟨rfl, rfl⟩
  obtain ⟨c0, f0⟩ := hc 0 (by omega)
  obtain ⟨c1, f1⟩ := hc 1 (by omega)
  obtain ⟨c2, f2⟩ := hc 2 (by omega)
  clear hc
  have hbb : Below w.heap.size w w1 := hb0.trans (hb1.mono (by simp))
  go_wp2_with fail
  refine wp_loop_rounds 1 ?_; rw [rounds_succ]
  go_wp2_with fail
  refine (best_ _).mono ?_; rintro e w2 ⟨rfl, rfl⟩
  go_wp2_with fail
  exact bodyPost_ret (v := .tuple #[.agg #[.int .i64 0, .int .i64 0, .int .i64 0], .bool false]) (by simp [results, Try.results8, go_sem, c0, c1, c2]) rfl ⟨rfl, ((hbb.setCell (Nat.le_refl _) _).setCell (Nat.le_refl _) _).setCell (Nat.le_refl _) _⟩

set_option maxHeartbeats 400000 in
theorem awake_ (w : World) : Calls Try.prog 4 #[] w fun e w' => e = .returned (.bool true) ∧ Below w.heap.size w w' := by
  go_enter Try.func4, Try.ntmps4
  go_wp2_with fail
  refine (state_new _).mono ?_; rintro e w1 ⟨b, u, rfl, hb1, h1⟩
  go_wp2_with fail
  refine (part_ b u _ h1).mono ?_; rintro e w2 ⟨v, rfl, ⟨x, rfl, hx⟩, hb2⟩
  have h2 := h1.below hb2
  go_wp2_with fail
  refine (victim_ b u _ h2).mono ?_; rintro e w3 ⟨rfl, hb3⟩
  have h3 := h2.below hb3
  have hB : Below w.heap.size w w3 := hb1.trans ((hb2.trans (hb3.mono hb2.size)).mono hb1.size)
  have e0 := (MapKept.heap_alloc w3 (.cells #[.int .i64 0, .int .i64 0, .int .i64 0] 29)).1
  have hx2 : (FloatKind.f64.format.order x x != some Ordering.eq) = true := by rw [hx]; rfl
  go_wp2_with fail
  have h4 : ∀ W, Below w3.heap.size w3 W → Bare W b u := fun W hb => h3.below hb
  refine (rows_ b u _ (h4 _ ?hb)).mono ?_
  case hb => exact (Below.refl _ _).alloc (Nat.le_refl _) _
  rintro e w4 ⟨rfl, hb4⟩
  go_wp2_with fail
  go_ret
  refine ⟨rfl, hB.trans (((Below.refl _ _).alloc (Nat.le_refl _) _).trans (hb4.mono (by simp)) |>.mono ?_)⟩
  exact hB.size

set_option maxHeartbeats 400000 in
theorem usageKnown_ (w : World) : Calls Try.prog 3 #[] w fun e w' => e = .returned (.bool true) ∧ Below w.heap.size w w' := by
  go_enter Try.func3, Try.ntmps3
  go_wp2_with fail
  refine (awake_ _).mono ?_
  rintro e w1 ⟨rfl, hb1⟩
  go_wp2_with fail
  refine (state_new _).mono ?_; rintro e w2 ⟨b, u, rfl, hb2, h2⟩
  go_wp2_with fail
  refine (live_ b u _ h2).mono ?_; rintro e w3 ⟨rfl, hb3⟩
  go_wp2_with fail
  go_ret
  exact ⟨rfl, hb1.trans ((hb2.trans (hb3.mono hb2.size)).mono hb1.size)⟩
#print axioms usageKnown_

end Go.Proofs.Ytkcgijidgppeiaa
