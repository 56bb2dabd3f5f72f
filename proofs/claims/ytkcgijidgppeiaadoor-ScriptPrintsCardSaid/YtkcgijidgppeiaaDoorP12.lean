/- An event's line, printed. -/
import Derived.Test.YtkcgijidgppeiaaDoorP11
import Derived.Deep.CutRange
import Derived.Deep.DeepCutAuto
import Derived.Deep.RegionHeld3
namespace Go.Proofs.YtkcgijidgppeiaaDoor
open Go.RowKit

/-- the words of a line, in the variable at bw. -/
def Wd (w : World) (bw base : Nat) (xs : List ByteArray) : Prop :=
  ∃ lv, w.heap[bw]? = some (.cells #[lv] 51 (0, 0)) ∧ w.ownsRow base 9 1 lv xs.length (xs.map .string) ∧ base ≤ w.heap.size

/-- what adding words may turn: the variable, and rows of strings from base on. -/
def Ad (w : World) (bw base : Nat) (k : Nat) : Prop := k = bw ∨ (base ≤ k ∧ ∃ cur fz, w.heap[k]? = some (.cells cur 9 fz))

set_option maxRecDepth 100000 in
set_option maxHeartbeats 400000 in
theorem add_ (bw base : Nat) (xs ys : List ByteArray) (v : Value) (w : World) (h : Wd w bw base xs) (hy : InAt w v (ys.map .string)) (h0 : ys ≠ []) (hx : xs.length ≤ 1000) (hyl : ys.length ≤ 1000) :
    Calls Tryd.prog 52 #[v, .pointer (some ⟨bw, 0, none⟩)] w fun e w' => e = .returned (.tuple #[]) ∧ Wd w' bw base (xs ++ ys) ∧ Fr (Ad w bw base) w w' := by
  obtain ⟨lv, hk, hown, hb⟩ := h
  obtain ⟨a, c, rfl, hc, hy⟩ := hy
  rcases hy with hy | ⟨b, off, rfl, hby, hcell⟩
  · exact absurd (by simpa using hy) h0
  obtain ⟨i0, hi0, hz0, hz1, hz2⟩ := info_parts Tryd.info9
  have HI := Lib.hid hi0
  have HZ0 := Lib.hid hz0
  have HZ1 := Lib.hid hz1
  have HZ2 := Lib.hid hz2
  clear hi0 hz0 hz1 hz2
  have cw : w.cell? ⟨bw, 0, none⟩ = some lv := by rw [cell_at hk]; rfl
  have zw := frozen_at hk 0
  have tag : ∀ k, lv.ownBlock = some k → base ≤ k ∧ ∃ cur, w.heap[k]? = some (.cells cur 9 (0, 0)) := by
    intro k hk
    rcases hown.2 with ⟨rfl, _⟩ | ⟨g, cp, cur, rfl, hb, hh, _⟩
    · simp [Value.ownBlock] at hk
    · simp [Value.ownBlock] at hk
      subst hk
      exact ⟨hb, cur, hh⟩
  have H0 := Lib.hid h0
  have HCELL := Lib.hid hcell
  have TAG := Lib.hid tag
  rw [List.length_map]
  generalize hm : ys.length = m
  have HM := Lib.hid hm
  clear h0 hcell tag hc hm
  go_enter Tryd.func52, Tryd.ntmps52
  go_wp2_with (at_builtin; refine wpList_append_own _ rfl _ _ 51 rfl base 9 i0 (.string ⟨#[]⟩) 1 16 Tryd.underlying51 HI.out HZ0.out HZ1.out HZ2.out rfl (by decide) _ _ _ rfl hown ⟨b, off, none⟩ m c (ys.map .string) rfl ?c0 ?c1 ?c2 ?c3 ?c4 ?c5 ?_)
  case c0 => rw [List.length_map, HM.out, Nat.mul_one]
  case c1 =>
    intro k u hk
    have hadd : (⟨b, off, none⟩ : Addr).add k = ⟨b, off + k, none⟩ := by unfold Addr.add; split <;> simp_all
    rw [hadd]
    exact HCELL.out k u hk
  case c2 =>
    intro u hu
    obtain ⟨x, _, rfl⟩ := List.mem_map.1 hu
    rfl
  case c3 => unfold maxLen; have := HM.out; omega
  case c4 => have := HM.out; omega
  case c5 => exact hb
  intro v' w2 hown2 hgrow _
  have bn : lv.ownBlock ≠ some bw := fun e => by
    obtain ⟨_, cur, hh⟩ := TAG.out bw e
    rw [hk] at hh
    simp at hh
  have F2 : Fr (fun k => lv.ownBlock = some k) w w2 := (Fr.refl (S := fun k => lv.ownBlock = some k) w).grown hgrow (fun k hk => .inl hk)
  have k2 : w2.heap[bw]? = some (.cells #[lv] 51 (0, 0)) := F2.block_of hk bn
  have c2 : w2.cell? ⟨bw, 0, none⟩ = some lv := by rw [cell_at k2]; rfl
  have z2 := frozen_at k2 0
  obtain ⟨a', l', c', hv'⟩ : ∃ a l c, v' = .slice a l c := by
    rcases hown2.2 with ⟨h, _⟩ | ⟨g, cp, cur, h, _⟩
    · exact ⟨_, _, _, h⟩
    · exact ⟨_, _, _, h⟩
  subst hv'
  clear hgrow
  go_wp2_with fail
  go_end0
  refine ⟨rfl, ⟨.slice a' l' c', ?_, ?_, ?_⟩, ?_⟩
  · have := setCell_at k2 0 (.slice a' l' c')
    simpa using this
  · rw [List.length_append, List.map_append, HM.out]
    refine ⟨hown2.1, ?_⟩
    rcases hown2.2 with h | ⟨g, cp, cur, h1, h2, h3, h4⟩
    · exact .inl h
    · exact .inr ⟨g, cp, cur, h1, h2, setCell_off h3 (fun e => by rw [e, k2] at h3; simp at h3) 0 _, h4⟩
  · exact Nat.le_trans hb (by simpa [World.setCell] using F2.size)
  · refine Fr.setCell (F2.mono (fun k _ hk => ?_)) (.inl (.inl rfl)) _
    exact .inr ⟨(TAG.out k hk).1, by obtain ⟨_, cur, h⟩ := TAG.out k hk; exact ⟨cur, _, h⟩⟩

theorem Wd.no {w w' : World} {bw base : Nat} {xs : List ByteArray} (h : Wd w bw base xs) (f : Fr No w w') : Wd w' bw base xs := by
  obtain ⟨lv, hk, ho, hb⟩ := h
  exact ⟨lv, f.block_of hk id, ho.no f, Nat.le_trans hb f.size⟩
theorem ad_of {w w' : World} {bw base k : Nat} {cs : Array Value} {t : TypeId} {fz : Nat × Nat} (f : Fr (Ad w bw base) w w') (hk : w.heap[k]? = some (.cells cs t fz)) (ht : t ≠ 9) (hn : k ≠ bw) : w'.heap[k]? = some (.cells cs t fz) := by
  refine f.block_of hk ?_
  rintro (e | ⟨_, cur, fz', e⟩)
  · exact hn e
  · rw [hk] at e
    simp at e
    exact ht e.2.1

/-- while an event's line is being made. -/
structure Sd (w0 w : World) (be bw base : Nat) (xs : List ByteArray) (cs : Array Value) : Prop where
  gl : Glob w
  ke : w.heap[be]? = some (.cells cs 50 (0, 0))
  wd : Wd w bw base xs
  fr : Fr No w0 w
  lo : w0.heap.size ≤ base ∧ w0.heap.size ≤ bw ∧ be ≠ bw ∧ 8 ≤ w0.heap.size

theorem Sd.no {w0 w w' : World} {be bw base : Nat} {xs : List ByteArray} {cs : Array Value} (h : Sd w0 w be bw base xs cs) (f : Fr No w w') : Sd w0 w' be bw base xs cs :=
  ⟨h.gl.no f, f.block_of h.ke id, h.wd.no f, h.fr.trans f (fun _ _ e => e), h.lo⟩
theorem Sd.ad {w0 w w' : World} {be bw base : Nat} {xs ys : List ByteArray} {cs : Array Value} (h : Sd w0 w be bw base xs cs) (f : Fr (Ad w bw base) w w') (hW : Wd w' bw base ys) : Sd w0 w' be bw base ys cs := by
  have hl := h.lo
  refine ⟨h.gl.fr f ?_, ad_of f h.ke (by decide) h.lo.2.2.1, hW, h.fr.trans f ?_, h.lo⟩
  · rintro k hk (e | ⟨e, _⟩) <;> omega
  · rintro k hk (e | ⟨e, _⟩) <;> (simp only [No]; omega)

/-- numbers made words, in such a world. -/
theorem sd_ints {w0 w : World} {be bw base : Nat} {xs : List ByteArray} {cs : Array Value} (h : Sd w0 w be bw base xs cs) (ns : List Int) (hi : ∀ n ∈ ns, I64 n) (hN : ns.length ≤ 16) (m : Nat) (hm : m = ns.length) (b : Nat) (hb : b = w.heap.size) (vs : Array Value) (hvs : vs = (ns.map (Value.int .i64)).toArray) :
    Calls Tryd.prog 29 #[.slice (some ⟨b, 0, none⟩) m m] (w.alloc (.cells vs 3)) fun e w' => ∃ v', e = .returned v' ∧ Sd w0 w' be bw base xs cs ∧ InAt w' v' ((ns.map Scr.itoaB).map .string) ∧ Fr No w w' := by
  subst hm hb hvs
  have f : Fr No w (w.alloc (.cells (ns.map (Value.int .i64)).toArray 3)) := (Fr.refl w).alloc _
  refine (ints_ ns _ _ (h.gl.no f) ?_ hi (by omega)).mono ?_
  · refine ⟨_, _, by rw [List.length_map], by rw [List.length_map]; exact Nat.le_refl _, .inr ⟨w.heap.size, 0, rfl, by simp, fun j x hj => ?_⟩⟩
    rw [Nat.zero_add, cell_at (heap_alloc_new w _)]
    simpa using hj
  · rintro e w' ⟨v', rfl, hown, f2⟩
    have f3 := f.trans f2 (fun _ _ e => e)
    refine ⟨v', rfl, h.no f3, ?_, f3⟩
    have e : (ns.map Scr.itoaB).map Value.string = strs ns := by simp [strs]
    rw [e]
    refine InAt.of_own (base := (w.alloc (.cells (ns.map (Value.int .i64)).toArray 3)).heap.size) (e := 9) ?_
    rw [show (strs ns).length = ns.length by simp [strs]]
    exact hown

/-- words added, in such a world. -/
theorem sd_add {w0 w : World} {be bw base : Nat} {xs : List ByteArray} {cs : Array Value} (h : Sd w0 w be bw base xs cs) (ys : List ByteArray) (v : Value) (hy : InAt w v (ys.map .string)) (h0 : ys ≠ []) (hx : xs.length ≤ 100) (hyl : ys.length ≤ 100) :
    Calls Tryd.prog 52 #[v, .pointer (some ⟨bw, 0, none⟩)] w fun e w' => e = .returned (.tuple #[]) ∧ Sd w0 w' be bw base (xs ++ ys) cs ∧ Fr (Ad w bw base) w w' :=
  (add_ bw base xs ys v w h.wd hy h0 (by omega) (by omega)).mono fun _ _ ⟨h1, h2, h3⟩ => ⟨h1, h.ad h3 h2, h3⟩

end Go.Proofs.YtkcgijidgppeiaaDoor
