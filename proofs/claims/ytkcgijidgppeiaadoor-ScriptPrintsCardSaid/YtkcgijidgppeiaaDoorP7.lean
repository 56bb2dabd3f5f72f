/- A line of the script, walked: the closure that reads it. -/
import Derived.Test.YtkcgijidgppeiaaDoorP5
import Derived.Test.YtkcgijidgppeiaaDoorP6
import Derived.Deep.RegionHeld3
import Derived.Deep.AppendLies
namespace Go.Proofs.YtkcgijidgppeiaaDoor
open Go.RowKit

/-- the events that a slice of the call's own holds. -/
def Evs (w : World) (base : Nat) (v : Value) (evs : List Scr.Ev) : Prop :=
  ∃ vss : List (List Value), w.ownsRow base 50 13 v evs.length vss.flatten ∧ vss.length = evs.length ∧ (∀ (i : Nat) (e : Scr.Ev) (vs : List Value), evs[i]? = some e → vss[i]? = some vs → EvV w e vs ∧ vs.length = 13) ∧ (∀ vs ∈ vss, Tag5 w vs)

/-- what the closure shares with Parse: the line's number, the configuration, the events. -/
structure Sh (w : World) (base bi bc bl : Nat) (i : Int) (c : Scr.Cfg) (evs : List Scr.Ev) (lv : Value) : Prop where
  gl : Glob w
  ki : w.heap[bi]? = some (.cells #[.int .i64 i] 3 (0, 0))
  kc : w.heap[bc]? = some (.cells #[.int .i64 c.servers, .int .i64 c.clients, .int .i64 c.sectors, .int .i64 c.journal, .int .i64 c.tries] 24 (0, 0))
  kl : w.heap[bl]? = some (.cells #[lv] 25 (0, 0))
  ev : Evs w base lv evs
  h8 : 8 ≤ bi ∧ 8 ≤ bc ∧ 8 ≤ bl
  hb : base ≤ w.heap.size
  bb : bc < base ∧ bl < base
  i64 : I64 c.servers ∧ I64 c.clients ∧ I64 c.sectors ∧ I64 c.journal ∧ I64 c.tries

theorem EvV.fr {S : Nat → Prop} {w w' : World} {e : Scr.Ev} {vs : List Value} (h : EvV w e vs) (f : Fr S w w') (hS : ∀ a l c, Value.slice (some a) l c ∈ vs → ¬ S a.block) : EvV w' e vs := by
  obtain ⟨ovs, vb, rfl, ho, hs, r⟩ := h
  exact ⟨ovs, vb, rfl, ho.fr f (fun a l c hm => hS a l c (by simp [hm])), hs.fr f (fun a l c hm => hS a l c (by simp [hm])), r⟩

theorem EvV.len {w : World} {e : Scr.Ev} {vs : List Value} (h : EvV w e vs) : vs.length = 13 := by
  obtain ⟨ovs, vb, rfl, ⟨ob, rfl, _⟩, _⟩ := h
  rfl

theorem EvV.one {w : World} {e : Scr.Ev} {vs : List Value} (h : EvV w e vs) : ∀ v ∈ vs, v.oneCell' = true := by
  obtain ⟨ovs, vb, rfl, ⟨ob, rfl, hob, _⟩, hvb, _⟩ := h
  obtain ⟨a, l, c, rfl⟩ := hob.shape
  obtain ⟨a', l', c', rfl⟩ := hvb.shape
  intro v hv
  simp at hv
  rcases hv with rfl | rfl | rfl | rfl | rfl | rfl | rfl | rfl | rfl | rfl | rfl | rfl | rfl <;> rfl

/-- the events stay while nothing of theirs turns: neither a block of bytes nor the slice's own. -/
theorem Evs.fr {S : Nat → Prop} {w w' : World} {base : Nat} {v : Value} {evs : List Scr.Ev} (h : Evs w base v evs) (f : Fr S w w') (h5 : ∀ k cur fz, w.heap[k]? = some (.cells cur 5 fz) → ¬ S k) (h50 : ∀ k, v.ownBlock = some k → ¬ S k) : Evs w' base v evs := by
  obtain ⟨vss, ho, hl, he, ht⟩ := h
  have hsl : ∀ vs ∈ vss, ∀ a l c, Value.slice (some a) l c ∈ vs → ¬ S a.block := fun vs hvs a l c hm => by
    obtain ⟨cur, fz, hh⟩ := ht vs hvs a l c hm
    exact h5 _ _ _ hh
  refine ⟨vss, ?_, hl, fun i e vs h1 h2 => ⟨((he i e vs h1 h2).1).fr f (hsl vs (List.mem_of_getElem? h2)), (he i e vs h1 h2).2⟩, fun vs hvs => (ht vs hvs).fr f (hsl vs hvs)⟩
  obtain ⟨hl2, h⟩ := ho
  refine ⟨hl2, ?_⟩
  rcases h with h | ⟨g, cap, cur, rfl, hg, hh, r⟩
  · exact .inl h
  · exact .inr ⟨g, cap, cur, rfl, hg, f.block_of hh (h50 g rfl), r⟩

/-- what the closure does with a line's reader. -/
def ReadPost (w : World) (base bi bc bl br : Nat) (ws : List ByteArray) (i : Int) (c : Scr.Cfg) (evs : List Scr.Ev) (lv : Value) (e : Ending) (w' : World) : Prop :=
  (∃ c' evs' lv' r, (if i = 0 then (∃ x, Scr.config ws = some (x, r) ∧ c' = x) ∧ evs' = evs else (∃ x, Scr.event ws = some (x, r) ∧ evs' = evs ++ [x]) ∧ c' = c) ∧
      e = .returned (.tuple #[]) ∧ Sh w' base bi bc bl i c' evs' lv' ∧ Rd w' br r ∧ Fr (fun k => k = br ∨ k = bc ∨ k = bl ∨ lv.ownBlock = some k) w w') ∨
  ((if i = 0 then Scr.config ws = none else Scr.event ws = none) ∧ e = .panicked oddC ∧ Fr (· = br) w w')

theorem Sh.call {w w' : World} {base bi bc bl br : Nat} {i : Int} {c : Scr.Cfg} {evs : List Scr.Ev} {lv : Value} (h : Sh w base bi bc bl i c evs lv) (f : Fr (· = br) w w') (hi : bi < br) (hc : bc < br) (hl : bl < br)
    (h5 : ∀ cur fz, w.heap[br]? ≠ some (.cells cur 5 fz)) (h50 : lv.ownBlock ≠ some br) : Sh w' base bi bc bl i c evs lv :=
  ⟨h.gl.br f (by have := h.h8; omega), f.block_of h.ki (by omega), f.block_of h.kc (by omega), f.block_of h.kl (by omega), h.ev.fr f (fun k cur fz hk e => h5 cur fz (e ▸ hk)) (fun k hk e => h50 (e ▸ hk)), h.h8,
    Nat.le_trans h.hb f.size, h.bb, h.i64⟩

theorem Tryd.size24 : (Tryd.prog.info? 24).map (·.size) = some 5 := by kernel_rfl

theorem Sh.setc {w : World} {base bi bc bl : Nat} {i : Int} {c x : Scr.Cfg} {evs : List Scr.Ev} {lv : Value} (h : Sh w base bi bc bl i c evs lv) (hx : I64 x.servers ∧ I64 x.clients ∧ I64 x.sectors ∧ I64 x.journal ∧ I64 x.tries) (hne : bl ≠ bc) (hni : bi ≠ bc) :
    Sh (w.setRow bc #[.int .i64 x.servers, .int .i64 x.clients, .int .i64 x.sectors, .int .i64 x.journal, .int .i64 x.tries]) base bi bc bl i x evs lv := by
  have f : Fr (· = bc) w (w.setRow bc #[.int .i64 x.servers, .int .i64 x.clients, .int .i64 x.sectors, .int .i64 x.journal, .int .i64 x.tries]) := Fr.setRow (S := (· = bc)) (Fr.refl w) (.inl rfl) _
  have h8 := h.h8
  refine ⟨h.gl.fr f (fun k hk e => by omega), f.block_of h.ki hni, setRow_at h.kc, f.block_of h.kl hne, h.ev.fr f ?_ ?_, h8, Nat.le_trans h.hb f.size, h.bb, hx⟩
  · intro k cur fz hk e
    rw [e, h.kc] at hk
    simp at hk
  · intro k hk e
    obtain ⟨_, ho, _⟩ := h.ev
    have := (ho.lt k hk).1
    have := h.bb
    omega

set_option maxRecDepth 100000 in
set_option maxHeartbeats 800000 in
theorem read_zero (base bi bc bl br : Nat) (ws : List ByteArray) (c : Scr.Cfg) (evs : List Scr.Ev) (lv : Value) (w : World) (h : Sh w base bi bc bl 0 c evs lv) (hr : Rd w br ws) (hi : bi < br) (hc : bc < br) (hl : bl < br) (h50 : lv.ownBlock ≠ some br) :
    Calls Tryd.prog 19 #[.pointer (some ⟨br, 0, none⟩), .pointer (some ⟨bi, 0, none⟩), .pointer (some ⟨bc, 0, none⟩), .pointer (some ⟨bl, 0, none⟩)] w (ReadPost w base bi bc bl br ws 0 c evs lv) := by
  have ci : w.cell? ⟨bi, 0, none⟩ = some (.int .i64 0) := by rw [cell_at h.ki]; rfl
  have h5 : ∀ cur fz, w.heap[br]? ≠ some (.cells cur 5 fz) := by
    intro cur fz e
    obtain ⟨_, _, _, bw, off, cap, hbk, _⟩ := hr
    rw [hbk] at e
    simp at e
  go_enter Tryd.func19, Tryd.ntmps19
  go_wp2_with fail
  refine (config_ br ws _ hr h.gl).mono ?_
  rintro e w1 (⟨x, r, v, hf, rfl, ⟨rfl, hx⟩, hr1, f⟩ | ⟨hf, rfl, f⟩)
  rotate_left
  · exact ⟨rfl, .inr ⟨by simp [hf], rfl, f⟩⟩
  have h1 := h.call f hi hc hl h5 h50
  have KC := Lib.hid h1.kc
  have HOC := Lib.hid (one_cells [.int .i64 x.servers, .int .i64 x.clients, .int .i64 x.sectors, .int .i64 x.journal, .int .i64 x.tries] (by intro v hv; simp only [List.mem_cons, List.mem_nil_iff, or_false] at hv; rcases hv with rfl | rfl | rfl | rfl | rfl <;> rfl))
  have HF := Lib.hid hf
  clear hf ci h5
  have F2 : Fr (fun k => k = br ∨ k = bc ∨ k = bl ∨ lv.ownBlock = some k) w (w1.setRow bc #[.int .i64 x.servers, .int .i64 x.clients, .int .i64 x.sectors, .int .i64 x.journal, .int .i64 x.tries]) :=
    Fr.setRow (f.mono (fun _ _ h => .inl h)) (.inl (.inr (.inl rfl))) _
  have S2 := h1.setc hx (fun e => by
    have := h1.kl
    rw [e, h1.kc] at this
    simp at this) (fun e => by
    have := h1.ki
    rw [e, h1.kc] at this
    simp at this)
  have R2 := hr1.fr2 (S := (· = bc)) (Fr.setRow (S := (· = bc)) (Fr.refl w1) (.inl rfl) #[.int .i64 x.servers, .int .i64 x.clients, .int .i64 x.sectors, .int .i64 x.journal, .int .i64 x.tries]) (by omega) (fun k cur hk _ e => by
    rw [e, h1.kc] at hk
    simp at hk)
  simp only []
  iterate 1 (first | go_values | go_skip | go_guarded | go_step)
  refine wpList_store_row rfl 24 (.tmp 2) (.tmp 8) rfl bc #[.int .i64 x.servers, .int .i64 x.clients, .int .i64 x.sectors, .int .i64 x.journal, .int .i64 x.tries] rfl rfl 24 _ KC.out Tryd.size24 rfl HOC.out ?_
  go_wp2_with fail
  refine bodyPost_ret (results_none rfl _ _ _) rfl (.inl ⟨x, evs, lv, r, ?_, rfl, S2, R2, F2⟩)
  simp [HF.out]
end Go.Proofs.YtkcgijidgppeiaaDoor
