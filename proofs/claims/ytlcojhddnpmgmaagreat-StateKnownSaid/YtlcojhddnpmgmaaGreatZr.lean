/- A region that draws its order, by what holds behind whatever has been done of it; two requests in one. -/
import Derived.Test.YtlcojhddnpmgmaaGreatZq
import Derived.Outline
namespace Go.Proofs.YtlcojhddnpmgmaaGreat
open Go.RowKit

/-- What holds ahead of a drawn region, and behind each operation that may come up, holds at its end. -/
theorem wpAny_inv {P : Program} {md : Region.Mode} {ops : Array Oper} {Q : Exit → Act → World → Prop} (Inv : Nat → Array Bool → Act → World → Prop)
    (hs : ∀ n listed a w, Inv n listed a w → ∀ i ∈ Region.ready md ops listed, ∃ m, n = m + 1 ∧ wpOp P ops Q i (Inv m (listed.setIfInBounds i true)) a w)
    (hd : ∀ n listed a w, Inv n listed a w → Region.ready md ops listed = [] → Q .normal a w) :
    ∀ n listed a w, Inv n listed a w → wpAny P md ops Q n listed a w := by
  intro n
  induction n with
  | zero =>
    intro listed a w h
    have hr : Region.ready md ops listed = [] := by
      rcases hc : Region.ready md ops listed with _ | ⟨i, l⟩
      · rfl
      · obtain ⟨m, hm, _⟩ := hs 0 listed a w h i (by rw [hc]; simp)
        omega
    exact ⟨hr, hd 0 listed a w h hr⟩
  | succ n ih =>
    intro listed a w h
    refine ⟨fun hr => hd _ listed a w h hr, fun i hi => ?_⟩
    obtain ⟨m, hm, h1⟩ := hs (n + 1) listed a w h i hi
    obtain rfl : n = m := by omega
    exact wpOp_mono (fun a w hk => ih _ a w hk) h1

/-- a request's own cells written: what becomes of a state. -/
theorem At.req {w w' : World} {L : Loc} {C : Con} (h : At w L C) {b : Nat} {cs : Array Value} {fz : Nat × Nat} (hb : w.heap[b]? = some (.cells cs 41 fz)) (f : Fr (fun k => k = b) w w') : At w' L C :=
  ⟨f.block_of h.s (by intro e; have := h.s; rw [e, hb] at this; simp at this), f.block_of h.win (by intro e; have := h.win; rw [e, hb] at this; simp at this), f.block_of h.tr (by intro e; have := h.tr; rw [e, hb] at this; simp at this), f.block_of h.tk (by intro e; have := h.tk; rw [e, hb] at this; simp at this), f.block_of h.th (fun e => ne_map hb h.th e.symm), f.block_of h.root (by intro e; have := h.root; rw [e, hb] at this; simp at this), f.block_of h.rin (fun e => ne_map hb h.rin e.symm), f.block_of h.fl (fun e => ne_map hb h.fl e.symm), h.ne⟩

/-- what holds when so much of the two requests' region is done. -/
structure Aw (L : Loc) (w1 : World) (b0 b1 b2 b3 b4 b5 b6 b7 b8 b9 b10 b11 : Bool) (v3 v4 v12 v13 v14 v15 v16 v17 v18 v19 : Value) (w : World) : Prop where
  fr : Fr (Turn L) w1 w
  rb : w.heap[w1.heap.size]? = some (.cells (req 1 1 ⟨#[47, 102]⟩) 41 (0, 0))
  tn : ∀ k, Turn L k → k < w1.heap.size
  m0 : b0 = true → v12 = .pointer (some ⟨L.s, 0, none⟩)
  m1 : b1 = true → v13 = .agg (req 1 1 ⟨#[47, 102]⟩)
  m2 : b2 = true → v14 = .agg (req 1 1 ⟨#[47, 102]⟩)
  m3 : b3 = true → v15 = .agg (rep 0 2)
  m4 : b4 = true → v16 = .pointer (some ⟨L.s, 0, none⟩)
  m5 : b5 = true → v17 = .agg (req 1 1 ⟨#[47, 102]⟩)
  m6 : b6 = true → v18 = .agg (req 1 1 ⟨#[47, 102]⟩)
  m7 : b7 = true → ∃ b c, v19 = .agg #[.int .i64 0, .int .i64 2, .int .i64 0, .int .i64 0, .int .i64 0, .bool false, .slice none 0 0, .slice (some ⟨b, 0, none⟩) 0 c]
  s0 : b3 = false → At w L (newCon L.root)
  s1 : b3 = true → ∃ x m r v b c, At w L { (tick (newCon L.root)).file x m with row := .pointer (some ⟨r, 0, none⟩) } ∧ w.heap[r]? = some (.cells #[.int .i64 0, .int .i64 0, .int .i64 1, v] 119 (0, 0)) ∧ SlIs w v (repB 0 2) b 0 c
  g8 : b8 = true → ∃ g cs, v3 = .pointer (some ⟨g, 0, none⟩) ∧ w1.heap.size < g ∧ w.heap[g]? = some (.cells cs 29 (0, 0)) ∧ cs[0]? = some (.int .i64 0) ∧ cs.size = 8 ∧ (b10 = true → v15 = .agg cs)
  g9 : b9 = true → ∃ g cs, v4 = .pointer (some ⟨g, 0, none⟩) ∧ w1.heap.size < g ∧ w.heap[g]? = some (.cells cs 29 (0, 0)) ∧ cs[0]? = some (.int .i64 0) ∧ cs.size = 8 ∧ (b11 = true → v19 = .agg cs)
  ne : b8 = true → b9 = true → v3 ≠ v4
  o10 : b10 = true → b8 = true
  o11 : b11 = true → b9 = true
  o6 : b6 = true → b3 = true
  o3 : b10 = true → b3 = true
  o7 : b11 = true → b7 = true

variable {L : Loc} {w1 w w' : World} {b0 b1 b2 b3 b4 b5 b6 b7 b8 b9 b10 b11 : Bool} {v3 v4 v12 v13 v14 v15 v16 v17 v18 v19 : Value}
/-- nothing of it turned. -/
theorem Aw.no (h : Aw L w1 b0 b1 b2 b3 b4 b5 b6 b7 b8 b9 b10 b11 v3 v4 v12 v13 v14 v15 v16 v17 v18 v19 w) (f : Fr No w w') : Aw L w1 b0 b1 b2 b3 b4 b5 b6 b7 b8 b9 b10 b11 v3 v4 v12 v13 v14 v15 v16 v17 v18 v19 w' :=
  { h with
    fr := h.fr.trans f (fun _ _ e => e.elim)
    rb := f.block_of h.rb id
    s0 := fun e => (h.s0 e).no f
    s1 := fun e => by
      obtain ⟨x, m, r, v, b, c, a, k, s⟩ := h.s1 e
      exact ⟨x, m, r, v, b, c, a.no f, f.block_of k id, s.1, s.2.1, Nat.lt_of_lt_of_le s.2.2.1 f.size, fun j y hj => f.cell_of (s.2.2.2 j y hj) id⟩
    g8 := fun e => by
      obtain ⟨g, cs, e1, e2, e3, e4⟩ := h.g8 e
      exact ⟨g, cs, e1, e2, f.block_of e3 id, e4⟩
    g9 := fun e => by
      obtain ⟨g, cs, e1, e2, e3, e4⟩ := h.g9 e
      exact ⟨g, cs, e1, e2, f.block_of e3 id, e4⟩ }
/-- a request done: blocks behind the state's stand. -/
theorem Aw.far_of (h : Aw L w1 b0 b1 b2 b3 b4 b5 b6 b7 b8 b9 b10 b11 v3 v4 v12 v13 v14 v15 v16 v17 v18 v19 w) (f : Fr (Turn L) w w') {k : Nat} {o : Obj} (hk : w1.heap.size ≤ k) (ho : w.heap[k]? = some o) : w'.heap[k]? = some o :=
  f.block_of ho (fun e => by have := h.tn k e; omega)
/-- a reply's row written. -/
theorem Aw.row (h : Aw L w1 b0 b1 b2 true b4 b5 b6 b7 b8 b9 b10 b11 v3 v4 v12 v13 v14 v15 v16 v17 v18 v19 w) {g : Nat} {cs : Array Value} (hlt : w1.heap.size < g) (hg : w.heap[g]? = some (.cells cs 29 (0, 0))) (hx : cs[0]? = some (.int .i64 0)) (f : Fr (fun k => k = g) w w') :
    Fr (Turn L) w1 w' ∧ w'.heap[w1.heap.size]? = some (.cells (req 1 1 ⟨#[47, 102]⟩) 41 (0, 0)) ∧
      ∃ x m r v b c, At w' L { (tick (newCon L.root)).file x m with row := .pointer (some ⟨r, 0, none⟩) } ∧ w'.heap[r]? = some (.cells #[.int .i64 0, .int .i64 0, .int .i64 1, v] 119 (0, 0)) ∧ SlIs w' v (repB 0 2) b 0 c := by
  obtain ⟨x, m, r, v, b, c, a, k, s⟩ := h.s1 rfl
  exact ⟨h.fr.trans f (fun j hj e => by omega), f.block_of h.rb (by omega), x, m, r, v, b, c, a.far hg f, kept_row hg f k, kept_sl hg hx rfl f s⟩
end Go.Proofs.YtlcojhddnpmgmaaGreat
