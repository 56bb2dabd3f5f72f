/- What the statement's argument of events reads as, opened. -/
import Derived.Test.YtkcgijidgppeiaaDoorP15
import Derived.Deep.Slices
import Derived.ChangeArms
import Derived.ProofKit
namespace Go.Proofs.YtkcgijidgppeiaaDoor
open Go.ChangeShapes Go.WideShapes Go.RowKit Go.Deep

/-- an event's values, its lengths open. -/
def EvW (w : World) (x : Scr.Ev) (oa : Option Addr) (ol oc : Nat) (va : Option Addr) (vl vc : Nat) : Prop :=
  SlAt w (.slice oa ol oc) x.op.b ∧ SlAt w (.slice va vl vc) x.b ∧ I64 x.kind ∧ I64 x.node ∧ I64 x.fate ∧ I64 x.n ∧ I64 x.op.kind ∧ I64 x.op.handle ∧ I64 x.op.pos ∧ I64 x.op.n ∧
  x.op.path.length ≤ 9223372036854775807 ∧ x.op.to.length ≤ 9223372036854775807 ∧ (ol = x.op.b.length ∧ ol ≤ 9223372036854775807) ∧ (vl = x.b.length ∧ vl ≤ 9223372036854775807)

/-- a slice that reads as events, their lengths open. -/
def ArgEvs (w : World) (v : Value) (evs : List Scr.Ev) : Prop :=
  ∃ a c, v = .slice a evs.length c ∧ evs.length ≤ c ∧ c ≤ 9223372036854775807 ∧ (evs = [] ∨ ∃ b off, a = some ⟨b, off, none⟩ ∧ b < w.heap.size ∧
    ∀ j x, evs[j]? = some x → ∃ oa ol oc va vl vc, EvW w x oa ol oc va vl vc ∧ w.rangeAt b (off + j * 13) (evCells x (.slice oa ol oc) (.slice va vl vc)).toList)

section
variable {H : Type} {enc : TypeId × Value → H} {W : World} {sp : Nat → Bool} {held : Bool}

theorem cells3 : Tryd.prog.cellsOf 3 = 1 := by kernel_rfl
theorem cells4 : Tryd.prog.cellsOf 4 = 1 := by kernel_rfl
theorem cells5 : Tryd.prog.cellsOf 5 = 1 := by kernel_rfl
theorem cells9 : Tryd.prog.cellsOf 9 = 1 := by kernel_rfl
theorem cells43 : Tryd.prog.cellsOf 43 = 1 := by kernel_rfl
theorem cells45 : Tryd.prog.cellsOf 45 = 8 := by kernel_rfl
theorem cells47 : Tryd.prog.cellsOf 47 = 13 := by kernel_rfl

theorem fields_of {P : Program} {t : TypeId} {fs : Array Field} {fuel : Nat} {cs : List Value} {x : DataW H × List MemPlace} (ht : P.underlying t = some (.struct fs)) (h : DataW.trod enc P W 0 sp held fuel t cs = some x) :
    cs.length = P.cellsOf t ∧ ∃ n, ∀ (i : Nat) (f : Field) (t' : TypeId) (o k : Nat), fs[i]? = some f → f.type = t' → f.offset = o → P.cellsOf t' = k → ∃ y, DataW.trod enc P W 0 sp held n t' ((cs.drop o).take k) = some y := by
  obtain ⟨xs, n, _, _, hc, hl, hf⟩ := DataW.trod_struct ht h
  refine ⟨hc, n, fun i f t' o k hi e1 e2 e3 => ?_⟩
  subst e1 e2 e3
  have hlt : i < xs.length := by
    rw [hl]
    exact (Array.getElem?_eq_some_iff.1 hi).1
  exact ⟨xs[i], by rw [hf i f hi, List.getElem?_eq_getElem hlt]⟩

theorem byte_of_wf {x : Int} (h : (Lit.int .u8 x).wf = true) : 0 ≤ x ∧ x < 256 := by
  simp [Lit.wf, IntKind.min, IntKind.max, IntKind.signed, IntKind.bits] at h
  omega
theorem int_of {fuel : Nat} {c : Value} {y : DataW H × List MemPlace} (h : DataW.trod enc Tryd.prog W 0 sp held fuel 3 [c] = some y) : ∃ n, c = .int .i64 n ∧ I64 n := by
  obtain ⟨n, hc, _, hw⟩ := DataW.trod_int Tryd.underlying3 h
  simp only [List.cons.injEq, and_true] at hc
  exact ⟨n, hc, bounds_i64 hw⟩
theorem bool_of {fuel : Nat} {c : Value} {y : DataW H × List MemPlace} (h : DataW.trod enc Tryd.prog W 0 sp held fuel 4 [c] = some y) : ∃ n, c = .bool n := by
  obtain ⟨n, hc, _⟩ := DataW.trod_bool Tryd.underlying4 h
  simp only [List.cons.injEq, and_true] at hc
  exact ⟨n, hc⟩
theorem str_of {fuel : Nat} {c : Value} {y : DataW H × List MemPlace} (h : DataW.trod enc Tryd.prog W 0 sp held fuel 9 [c] = some y) : ∃ l : List UInt8, c = .string ⟨l.toArray⟩ ∧ l.length ≤ 9223372036854775807 := by
  obtain ⟨s, hc, _, hw⟩ := DataW.trod_string Tryd.underlying9 h
  simp only [List.cons.injEq, and_true] at hc
  refine ⟨s.data.toList, by rw [hc], ?_⟩
  unfold maxLen at hw
  have : s.data.toList.length = s.size := Array.length_toList
  omega
theorem slot_of_add {w : World} {a : Addr} {v : Value} (h : w.cell? a = some v) : a.spot = none := by
  unfold World.cell? at h
  split at h
  · split at h
    · cases h
    · simpa using ‹¬ a.spot.isSome = true›
  · cases h
theorem bytes_of {fuel : Nat} {c : Value} {y : DataW H × List MemPlace} (h : DataW.trod enc Tryd.prog W 0 sp held fuel 43 [c] = some y) :
    ∃ (a : Option Addr) (l k : Nat) (bs : List UInt8), c = .slice a l k ∧ SlAt W (.slice a l k) bs ∧ l = bs.length ∧ l ≤ 9223372036854775807 := by
  rcases open_ints Tryd.underlying43 Tryd.underlying5 cells5 h with ⟨hc, _⟩ | ⟨a, len, cap, zs, hc, _, hl, hm, hz, _, hcell, hwz⟩
  · simp only [List.cons.injEq, and_true] at hc
    exact ⟨none, 0, 0, [], hc, .inl ⟨rfl, _, _, rfl⟩, rfl, by omega⟩
  · simp only [List.cons.injEq, and_true] at hc
    have hzl : len ≤ zs.length := by rw [hz]; split <;> omega
    unfold maxLen at hm
    refine ⟨some a, len, cap, (zs.take len).map fun z => UInt8.ofNat z.toNat, hc, ?_, by simp; omega, by omega⟩
    rcases Nat.eq_zero_or_pos len with h0 | h0
    · subst h0
      exact .inl ⟨by simp, _, _, rfl⟩
    · have ha := slot_of_add (hcell 0 (by omega))
      have ha : a.spot = none := by simpa [Addr.add] using ha
      obtain ⟨b, off, s⟩ := a
      simp only at ha
      subst ha
      have e : ((zs.take len).map fun z => UInt8.ofNat z.toNat).length = len := by simp; omega
      refine .inr ⟨b, off, cap, by rw [e], by omega, ?_, trivial, fun j x hj => ?_⟩
      · exact lt_of_cell (hcell 0 (by omega))
      · have hj2 : j < len := by
          rcases Nat.lt_or_ge j len with h | h
          · exact h
          · rw [List.getElem?_eq_none (by omega)] at hj; cases hj
        have hx : x = UInt8.ofNat (zs[j]'(by omega)).toNat := by
          rw [List.getElem?_map, List.getElem?_take, if_pos hj2, List.getElem?_eq_getElem (by omega)] at hj
          simpa using hj.symm
        have hb := byte_of_wf (hwz (zs[j]'(by omega)) (List.getElem_mem _))
        have h1 := hcell j (by omega)
        have h2 : (Addr.mk b off none).add j = ⟨b, off + j, none⟩ := by unfold Addr.add; split <;> simp_all
        rw [h2] at h1
        rw [h1, hx]
        congr 2
        rw [List.getD_eq_getElem?_getD, List.getElem?_eq_getElem (by omega)]
        simp
        omega

set_option maxRecDepth 100000 in
theorem event_of {fuel : Nat} {cs : List Value} {y : DataW H × List MemPlace} (h : DataW.trod enc Tryd.prog W 0 sp held fuel 47 cs = some y) :
    ∃ (x : Scr.Ev) (oa : Option Addr) (ol oc : Nat) (va : Option Addr) (vl vc : Nat), cs = (evCells x (.slice oa ol oc) (.slice va vl vc)).toList ∧ EvW W x oa ol oc va vl vc := by
  obtain ⟨hl, n, hf⟩ := fields_of Tryd.underlying47 h
  rw [cells47] at hl
  match cs, hl with
  | [c0, c1, c2, c3, c4, c5, c6, c7, c8, c9, c10, c11, c12], _ =>
    obtain ⟨_, g0⟩ := hf 0 _ 3 0 1 rfl rfl rfl cells3
    obtain ⟨_, g1⟩ := hf 1 _ 3 1 1 rfl rfl rfl cells3
    obtain ⟨_, g2⟩ := hf 2 _ 3 2 1 rfl rfl rfl cells3
    obtain ⟨_, g3⟩ := hf 3 _ 3 3 1 rfl rfl rfl cells3
    obtain ⟨_, g4⟩ := hf 4 _ 45 4 8 rfl rfl rfl cells45
    obtain ⟨_, g5⟩ := hf 5 _ 43 12 1 rfl rfl rfl cells43
    obtain ⟨_, m, hg⟩ := fields_of Tryd.underlying45 g4
    obtain ⟨_, k0⟩ := hg 0 _ 3 0 1 rfl rfl rfl cells3
    obtain ⟨_, k1⟩ := hg 1 _ 9 1 1 rfl rfl rfl cells9
    obtain ⟨_, k2⟩ := hg 2 _ 9 2 1 rfl rfl rfl cells9
    obtain ⟨_, k3⟩ := hg 3 _ 3 3 1 rfl rfl rfl cells3
    obtain ⟨_, k4⟩ := hg 4 _ 3 4 1 rfl rfl rfl cells3
    obtain ⟨_, k5⟩ := hg 5 _ 3 5 1 rfl rfl rfl cells3
    obtain ⟨_, k6⟩ := hg 6 _ 4 6 1 rfl rfl rfl cells4
    obtain ⟨_, k7⟩ := hg 7 _ 43 7 1 rfl rfl rfl cells43
    obtain ⟨n0, rfl, i0⟩ := int_of g0
    obtain ⟨n1, rfl, i1⟩ := int_of g1
    obtain ⟨n2, rfl, i2⟩ := int_of g2
    obtain ⟨n3, rfl, i3⟩ := int_of g3
    obtain ⟨va, vl, vc, vb, rfl, hs, he, hm⟩ := bytes_of g5
    obtain ⟨m0, rfl, j0⟩ := int_of k0
    obtain ⟨m1, rfl, j1⟩ := str_of k1
    obtain ⟨m2, rfl, j2⟩ := str_of k2
    obtain ⟨m3, rfl, j3⟩ := int_of k3
    obtain ⟨m4, rfl, j4⟩ := int_of k4
    obtain ⟨m5, rfl, j5⟩ := int_of k5
    obtain ⟨m6, rfl⟩ := bool_of k6
    obtain ⟨oa, ol, oc, ob, rfl, ho, he2, hm2⟩ := bytes_of k7
    exact ⟨⟨n0, n1, n2, n3, ⟨m0, m1, m2, m3, m4, m5, m6, ob⟩, vb⟩, oa, ol, oc, va, vl, vc, rfl, ho, hs, i0, i1, i2, i3, j0, j3, j4, j5, j1, j2, ⟨he2, hm2⟩, he, hm⟩

set_option maxRecDepth 100000 in
theorem events_of {b0 : Nat} {v : Value} {d : DataW H} {p : List MemPlace} (hv : Value.okWide Tryd.prog W .any b0 30 v) (h : DataW.Trod enc Tryd.prog W 0 (fun _ => true) true 30 v d p) : ∃ evs, ArgEvs W v evs := by
  obtain ⟨a', len', cap', rfl⟩ := okWide_slice Tryd.underlying30 hv
  obtain ⟨fuel, hf⟩ := h
  rcases open_slice Tryd.underlying30 hf with ⟨hcs, _⟩ | ⟨a, len, cap, m, n, D, Pl, hcs, _, hl, hm, hmm, _, hi⟩
  · simp [Value.cells] at hcs
    obtain ⟨rfl, rfl, rfl⟩ := hcs
    exact ⟨[], none, 0, rfl, Nat.le_refl _, by omega, .inl rfl⟩
  · simp [Value.cells] at hcs
    obtain ⟨rfl, rfl, rfl⟩ := hcs
    simp only [if_true] at hmm
    subst hmm
    unfold maxLen at hm
    rw [cells47] at hi
    haveI : Inhabited Scr.Ev := ⟨Scr.Ev.zero⟩
    obtain ⟨f, hF⟩ := choose_lt (α := Scr.Ev) (n := len') (p := fun i x => ∃ (oa : Option Addr) (ol oc : Nat) (va : Option Addr) (vl vc : Nat), EvW W x oa ol oc va vl vc ∧ ∀ j u, (evCells x (.slice oa ol oc) (.slice va vl vc)).toList[j]? = some u → W.cell? ((a.add (i * 13)).add j) = some u) (fun i hlt => by
      obtain ⟨cs', h1, h2⟩ := hi i (by omega)
      obtain ⟨x, oa, ol, oc, va, vl, vc, rfl, hw⟩ := event_of h2
      obtain ⟨_, hlen, hcell⟩ := World.cells?_some h1
      refine ⟨x, oa, ol, oc, va, vl, vc, hw, fun j u hj => ?_⟩
      have hj13 : j < 13 := by
        rcases Nat.lt_or_ge j 13 with h | h
        · exact h
        · rw [List.getElem?_eq_none (by omega)] at hj; cases hj
      rw [hcell j hj13, hj])
    refine ⟨(List.range len').map f, some a, m, by simp, by simpa using hl, by omega, ?_⟩
    rcases Nat.eq_zero_or_pos len' with h0 | h0
    · subst h0
      exact .inl rfl
    · obtain ⟨_, _, _, _, _, _, _, hc0⟩ := hF 0 h0
      have c0 := hc0 0 _ rfl
      have ha := slot_of_add c0
      have ha : a.spot = none := by simpa [Addr.add] using ha
      have hblk := lt_of_cell c0
      obtain ⟨b, off, s⟩ := a
      simp only at ha
      subst ha
      refine .inr ⟨b, off, rfl, by simpa [Addr.add] using hblk, fun j x hj => ?_⟩
      have hj2 : j < len' := by
        rcases Nat.lt_or_ge j len' with h | h
        · exact h
        · rw [List.getElem?_eq_none (by simp; omega)] at hj; cases hj
      have hx : x = f j := by
        rw [List.getElem?_map, List.getElem?_range hj2] at hj
        simpa using hj.symm
      subst hx
      obtain ⟨oa, ol, oc, va, vl, vc, hw, hc⟩ := hF j hj2
      refine ⟨oa, ol, oc, va, vl, vc, hw, fun i u hu => ?_⟩
      have h2 : ((Addr.mk b off none).add (j * 13)).add i = ⟨b, off + j * 13 + i, none⟩ := by
        unfold Addr.add
        split <;> split <;> simp_all
      have := hc i u hu
      rw [h2] at this
      exact this
end
end Go.Proofs.YtkcgijidgppeiaaDoor
