/- The reference's Parse, walked. (Printed by wip/tools/refgen4.py.) -/
import Derived.Test.YtkcgijidgppeiaaDoorR7
import Derived.Test.YtkcgijidgppeiaaDoorP15
import Derived.Test.YtkcgijidgppeiaaDoorL7
namespace Go.Proofs.YtkcgijidgppeiaaDoor
open Go.RowKit

theorem SlAt.fr2 {S : Nat → Prop} {w w' : World} {v : Value} {bs : List UInt8} (h : SlAt w v bs) (f : Fr S w w') (hS : ∀ a l c, v = .slice (some a) l c → 0 < l → ¬ S a.block) : SlAt w' v bs := by
  rcases h with h | ⟨b, off, c, rfl, hl, hb, h8, hc⟩
  · exact .inl h
  · cases bs with
    | nil => exact .inl ⟨rfl, _, _, rfl⟩
    | cons x r => exact .inr ⟨b, off, c, rfl, hl, Nat.lt_of_lt_of_le hb f.size, h8, fun j y hj => f.cell_of (p := ⟨b, off + j, none⟩) (hc j y hj) (hS ⟨b, off, none⟩ _ _ rfl (by simp))⟩
theorem SlAt.blk {w : World} {v : Value} {bs : List UInt8} (h : SlAt w v bs) : ∀ a l c, v = .slice (some a) l c → 0 < l → a.block < w.heap.size := by
  intro a l c hv hl
  rcases h with ⟨rfl, a', c', h⟩ | ⟨b, off, c', h, _, hb, _⟩
  · rw [hv] at h; injection h with h1 h2 h3; omega
  · rw [hv] at h; injection h with h1 h2 h3; injection h1 with h1; rw [h1]; exact hb
theorem EvV.fr2 {S : Nat → Prop} {w w' : World} {e : Scr.Ev} {vs : List Value} (h : EvV w e vs) (f : Fr S w w') (hS : ∀ a l c, Value.slice (some a) l c ∈ vs → 0 < l → ¬ S a.block) : EvV w' e vs := by
  obtain ⟨ovs, vb, rfl, ⟨ob, rfl, hs, r⟩, hb, r2⟩ := h
  exact ⟨_, vb, rfl, ⟨ob, rfl, hs.fr2 f (fun a l c hv => hS a l c (by rw [hv]; simp)), r⟩, hb.fr2 f (fun a l c hv => hS a l c (by rw [hv]; simp)), r2⟩
theorem EvV.blk {w : World} {e : Scr.Ev} {vs : List Value} (h : EvV w e vs) : ∀ a l c, Value.slice (some a) l c ∈ vs → 0 < l → a.block < w.heap.size := by
  obtain ⟨ovs, vb, rfl, ⟨ob, rfl, hs, _⟩, hb, _⟩ := h
  intro a l c hm hl
  simp at hm
  rcases hm with hm | hm
  · exact hs.blk a l c hm.symm hl
  · exact hb.blk a l c hm.symm hl

/-- events that a slice of the call's own holds (the reference's). -/
def REvs (w : World) (base : Nat) (v : Value) (evs : List Scr.Ev) : Prop :=
  ∃ vss : List (List Value), w.ownsRow base 47 13 v evs.length vss.flatten ∧ vss.length = evs.length ∧ (∀ (i : Nat) (e : Scr.Ev) (vs : List Value), evs[i]? = some e → vss[i]? = some vs → EvV w e vs ∧ vs.length = 13) ∧
    (∀ vs ∈ vss, ∀ a l c, Value.slice (some a) l c ∈ vs → 0 < l → v.ownBlock ≠ some a.block ∧ a.block < w.heap.size ∧ base ≤ a.block)

theorem REvs.nil (w : World) (base : Nat) : REvs w base (.slice none 0 0) [] := ⟨[], ⟨rfl, .inl ⟨rfl, rfl⟩⟩, rfl, (fun i e vs h => by simp at h), (fun vs h => by simp at h)⟩
theorem REvs.no {w w' : World} {base : Nat} {v : Value} {evs : List Scr.Ev} (h : REvs w base v evs) (f : Fr No w w') : REvs w' base v evs := by
  obtain ⟨vss, ho, hl, he, hf⟩ := h
  exact ⟨vss, ho.no f, hl, (fun i e vs h1 h2 => ⟨(he i e vs h1 h2).1.fr f (fun _ _ _ _ e => e), (he i e vs h1 h2).2⟩), fun vs hm a l c h1 h2 => ⟨(hf vs hm a l c h1 h2).1, Nat.lt_of_lt_of_le (hf vs hm a l c h1 h2).2.1 f.size, (hf vs hm a l c h1 h2).2.2⟩⟩
theorem REvs.fr {S : Nat → Prop} {w w' : World} {base : Nat} {v : Value} {evs : List Scr.Ev} (h : REvs w base v evs) (f : Fr S w w') (hS : ∀ k, base ≤ k → ¬ S k) : REvs w' base v evs := by
  obtain ⟨vss, ho, hl, he, hf⟩ := h
  refine ⟨vss, ⟨ho.1, ?_⟩, hl, (fun i e vs h1 h2 => ⟨(he i e vs h1 h2).1.fr2 f (fun a l c hm h0 => hS _ (hf vs (List.mem_of_getElem? h2) a l c hm h0).2.2), (he i e vs h1 h2).2⟩), fun vs hm a l c h1 h2 => ⟨(hf vs hm a l c h1 h2).1, Nat.lt_of_lt_of_le (hf vs hm a l c h1 h2).2.1 f.size, (hf vs hm a l c h1 h2).2.2⟩⟩
  rcases ho.2 with h2 | ⟨g, cap, cur, rfl, hb, hh, r⟩
  · exact .inl h2
  · exact .inr ⟨g, cap, cur, rfl, hb, f.block_of hh (hS g hb), r⟩

/-- one event more. -/
theorem REvs.push {w1 w2 : World} {base g cap B : Nat} {v : Value} {evs : List Scr.Ev} {x : Scr.Ev} {vs : List Value} {vss : List (List Value)} {o : Obj}
    (_hown : w1.ownsRow base 47 13 v evs.length vss.flatten) (hl : vss.length = evs.length) (he : ∀ (i : Nat) (e : Scr.Ev) (vs : List Value), evs[i]? = some e → vss[i]? = some vs → EvV w1 e vs ∧ vs.length = 13)
    (hf : ∀ vs ∈ vss, ∀ a l c, Value.slice (some a) l c ∈ vs → 0 < l → v.ownBlock ≠ some a.block ∧ a.block < w1.heap.size ∧ base ≤ a.block) (hbB : base ≤ B)
    (hB : ∀ k, v.ownBlock = some k → k < B) (hx : EvV w1 x vs) (hn : NewVs B vs) (hxl : vs.length = 13)
    (hown2 : w2.ownsRow base 47 13 (.slice (some ⟨g, 0, none⟩) (evs.length + 1) cap) (evs.length + 1) (vss.flatten ++ vs)) (hg : (w1.alloc o).grownBy w2 v.ownBlock) (hat : v.ownBlock = some g ∨ g = w1.heap.size + 1) (_hgl : g < w2.heap.size) :
    REvs w2 base (.slice (some ⟨g, 0, none⟩) (evs.length + 1) cap) (evs ++ [x]) := by
  have F : Fr (fun k => v.ownBlock = some k) w1 w2 := ((Fr.refl (S := fun k => v.ownBlock = some k) w1).alloc o).grown hg (fun k hk => .inl hk)
  have hs := F.size
  have hnew : ∀ a l c, Value.slice (some a) l c ∈ vs → 0 < l → v.ownBlock ≠ some a.block ∧ a.block < w1.heap.size ∧ base ≤ a.block := fun a l c hm h0 =>
    ⟨fun e => by have := hB _ e; have := hn a l c hm; omega, hx.blk a l c hm h0, Nat.le_trans hbB (hn a l c hm)⟩
  have hfar : ∀ a : Addr, v.ownBlock ≠ some a.block ∧ a.block < w1.heap.size ∧ base ≤ a.block → (Value.slice (some ⟨g, 0, none⟩) (evs.length + 1) cap).ownBlock ≠ some a.block ∧ a.block < w2.heap.size ∧ base ≤ a.block := fun a ⟨h1, h2, h3⟩ => by
    refine ⟨fun e => ?_, by omega, h3⟩
    simp [Value.ownBlock] at e
    rcases hat with h | h
    · rw [← e] at h1; exact h1 h
    · omega
  refine ⟨vss ++ [vs], ?_, by simp [hl], ?_, ?_⟩
  · simpa using hown2
  · intro j e us h1 h2
    rcases Nat.lt_trichotomy j evs.length with hj | hj | hj
    · rw [List.getElem?_append_left hj] at h1
      rw [List.getElem?_append_left (by omega)] at h2
      have := he j e us h1 h2
      exact ⟨this.1.fr2 F (fun a l c hm h0 => (hf us (List.mem_of_getElem? h2) a l c hm h0).1), this.2⟩
    · subst hj
      simp at h1
      rw [List.getElem?_append_right (by omega)] at h2
      simp [hl] at h2
      subst h1; subst h2
      exact ⟨hx.fr2 F (fun a l c hm h0 => (hnew a l c hm h0).1), hxl⟩
    · rw [List.getElem?_eq_none (by simp; omega)] at h1
      cases h1
  · intro us hus a l c hm h0
    rcases List.mem_append.1 hus with hu | hu
    · exact hfar a (hf us hu a l c hm h0)
    · simp at hu
      subst hu
      exact hfar a (hnew a l c hm h0)

theorem REvs.at {w : World} {base : Nat} {v : Value} {evs : List Scr.Ev} (h : REvs w base v evs) : EvsAt w v evs := by
  obtain ⟨vss, ⟨hlen, ho⟩, hl, he, _⟩ := h
  have h13 : ∀ us ∈ vss, us.length = 13 := by
    intro us hus
    obtain ⟨j, hj, rfl⟩ := List.getElem_of_mem hus
    have hj2 : j < evs.length := by omega
    exact (he j evs[j] vss[j] (List.getElem?_eq_getElem hj2) (List.getElem?_eq_getElem hj)).2
  rcases ho with ⟨rfl, h0⟩ | ⟨g, cap, cur, rfl, hb, hh, hc, _, hs, ht⟩
  · exact ⟨none, 0, by rw [h0], by omega, .inl (List.eq_nil_of_length_eq_zero h0)⟩
  · refine ⟨_, cap, rfl, hc, .inr ⟨g, 0, rfl, lt_of_block hh, fun j x hj => ?_⟩⟩
    have hj2 : j < evs.length := by
      rcases Nat.lt_or_ge j evs.length with h | h
      · exact h
      · rw [List.getElem?_eq_none h] at hj; cases hj
    have hvs : vss[j]? = some vss[j] := List.getElem?_eq_getElem (by omega)
    obtain ⟨hev, hl13⟩ := he j x _ hj hvs
    obtain ⟨oa, ol, oc, va, vl, vc, hform⟩ := hev.form
    refine ⟨oa, ol, oc, va, vl, vc, hform ▸ hev, fun i u hi => ?_⟩
    rw [← hform] at hi
    have hi13 : i < 13 := by
      rcases Nat.lt_or_ge i 13 with h | h
      · exact h
      · rw [List.getElem?_eq_none (by omega)] at hi; cases hi
    have hf := flatten_at vss j i _ h13 hvs hi13
    rw [hi, ← ht, List.getElem?_take] at hf
    split at hf
    · rw [Nat.zero_add, cell_at hh]
      simpa using hf
    · cases hf

theorem Tryd.info47 : (Tryd.prog.info? 47).map (fun i => (i.zero, i.size, i.bytes)) = some (some (.agg #[.int .i64 0, .int .i64 0, .int .i64 0, .int .i64 0, .int .i64 0, .string ⟨#[]⟩, .string ⟨#[]⟩, .int .i64 0, .int .i64 0, .int .i64 0, .bool false, .slice none 0 0, .slice none 0 0]), 13, 152) := by kernel_rfl

/-- what the reference's Parse hands back. -/
def RParsePost (w : World) (text : ByteArray) (e : Ending) (w' : World) : Prop :=
  ∃ c evs n err lv, Scr.parse text = (c, evs, n, err) ∧ e = .returned (.tuple #[.agg #[.int .i64 c.servers, .int .i64 c.clients, .int .i64 c.sectors, .int .i64 c.journal, .int .i64 c.tries], lv, .int .i64 n, .int .i64 err]) ∧
    (I64 c.servers ∧ I64 c.clients ∧ I64 c.sectors ∧ I64 c.journal ∧ I64 c.tries) ∧ EvsAt w' lv evs ∧ Fr No w w'

theorem rparse_failed {w w' : World} {text : ByteArray} {n err : Int} {e : Ending} (hp : Scr.parse text = (Scr.Cfg.zero, [], n, err)) (he : e = .returned (.tuple #[.agg #[.int .i64 0, .int .i64 0, .int .i64 0, .int .i64 0, .int .i64 0], .slice none 0 0, .int .i64 n, .int .i64 err])) (f : Fr No w w') : RParsePost w text e w' := by
  have z : I64 0 := i64_lit 0 (by decide)
  exact ⟨Scr.Cfg.zero, [], n, err, _, hp, he, ⟨z, z, z, z, z⟩, ⟨none, 0, rfl, Nat.le_refl _, .inl rfl⟩, f⟩

theorem results8_ (tmps : Array Value) (w : World) (g : Nat) (cs : Array Value) (fr : Nat × Nat) (v3 v4 v5 : Value) (hp : tmps.getD 2 undef = .pointer (some ⟨g, 0, none⟩)) (h3 : tmps.getD 3 undef = v3) (h4 : tmps.getD 4 undef = v4) (h5 : tmps.getD 5 undef = v5)
    (hg : w.heap[g]? = some (.cells cs 29 fr)) (hc : cs.size = 5) : (results Tryd.f8 tmps).run Tryd.prog w = .ok (.tuple #[.agg cs, v3, v4, v5]) w := by
  have hl := run_loadVar_row (P := Tryd.prog) w g 29 29 cs fr _ hg Tryd.underlying29 rfl (by rw [Tryd.size29, hc])
  have h2' : tmps[2]?.getD undef = .pointer (some ⟨g, 0, none⟩) := by simpa using hp
  have h3' : tmps[3]?.getD undef = v3 := by simpa using h3
  have h4' : tmps[4]?.getD undef = v4 := by simpa using h4
  have h5' : tmps[5]?.getD undef = v5 := by simpa using h5
  simp [results, Tryd.results8, asAddr, h2', h3', h4', h5', hl]

theorem rows5 {w : World} {b : Nat} {t : TypeId} {a0 a1 a2 a3 a4 : Value} (h : w.heap[b]? = some (.cells #[a0, a1, a2, a3, a4] t (0, 0))) :
    (w.cell? ⟨b, 0, none⟩ = some a0 ∧ w.frozen? ⟨b, 0, none⟩ = false) ∧ (w.cell? ⟨b, 1, none⟩ = some a1 ∧ w.frozen? ⟨b, 1, none⟩ = false) ∧ (w.cell? ⟨b, 2, none⟩ = some a2 ∧ w.frozen? ⟨b, 2, none⟩ = false) ∧
    (w.cell? ⟨b, 3, none⟩ = some a3 ∧ w.frozen? ⟨b, 3, none⟩ = false) ∧ (w.cell? ⟨b, 4, none⟩ = some a4 ∧ w.frozen? ⟨b, 4, none⟩ = false) := by
  refine ⟨⟨?_, frozen_at h _⟩, ⟨?_, frozen_at h _⟩, ⟨?_, frozen_at h _⟩, ⟨?_, frozen_at h _⟩, ⟨?_, frozen_at h _⟩⟩ <;> (rw [cell_at h]; rfl)

/-- the cells of the block whose row is five. -/
theorem row5_off {w : World} {b k : Nat} {ob : Obj} (v0 v1 v2 v3 v4 : Value) (h : w.heap[k]? = some ob) (hne : k ≠ b) :
    (((((w.setCell ⟨b, 0, none⟩ v0).setCell ⟨b, 1, none⟩ v1).setCell ⟨b, 2, none⟩ v2).setCell ⟨b, 3, none⟩ v3).setCell ⟨b, 4, none⟩ v4).heap[k]? = some ob :=
  setCell_off (setCell_off (setCell_off (setCell_off (setCell_off h hne _ _) hne _ _) hne _ _) hne _ _) hne _ _

/-- what the loop of Parse holds on to. -/
structure PInv (w wr : World) (text : ByteArray) (b2 b8 base : Nat) (i : Nat) (c : Scr.Cfg) (evs : List Scr.Ev) (lv : Value) : Prop where
  rd : Scr.readAll 0 Scr.Cfg.zero [] (Scr.lines text) = Scr.readAll i c evs ((Scr.lines text).drop i)
  ev : REvs wr base lv evs
  few : evs.length ≤ i
  k2 : wr.heap[b2]? = some (.cells #[.int .i64 0, .int .i64 0, .int .i64 0, .int .i64 0, .int .i64 0] 29 (0, 0))
  k8 : wr.heap[b8]? = some (.cells #[.int .i64 c.servers, .int .i64 c.clients, .int .i64 c.sectors, .int .i64 c.journal, .int .i64 c.tries] 29 (0, 0))
  fr : Fr No w wr
  i64 : I64 c.servers ∧ I64 c.clients ∧ I64 c.sectors ∧ I64 c.journal ∧ I64 c.tries
  first : i = 0 → evs = [] ∧ lv = .slice none 0 0 ∧ c = Scr.Cfg.zero
  base : base ≤ wr.heap.size ∧ b8 < base ∧ b2 < b8 ∧ w.heap.size ≤ b2

set_option maxRecDepth 100000 in
set_option maxHeartbeats 8000000 in
theorem rparse_ (text : ByteArray) (w : World) (h8 : 8 ≤ w.heap.size) (hs : text.size ≤ 1048576) : Calls Tryd.prog 8 #[.string text] w (RParsePost w text) := by
  by_cases hbig : 65536 < text.size
  · have q : (65536 : Int) < (text.size : Int) := by omega
    have HP := Lib.hid (Scr.parse_long ((Scr.long_eq text).2 (.inl hbig)))
    have K := new_at w (.cells #[.int .i64 0, .int .i64 0, .int .i64 0, .int .i64 0, .int .i64 0] 29)
    obtain ⟨⟨p0, r0⟩, ⟨p1, r1⟩, ⟨p2, r2⟩, ⟨p3, r3⟩, ⟨p4, r4⟩⟩ := rows5 K
    have HK := Lib.hid K
    clear K hbig
    go_enter Tryd.func8, Tryd.ntmps8
    go_wp2_with fail
    exact bodyPost_ret (results8_ _ _ w.heap.size #[.int .i64 0, .int .i64 0, .int .i64 0, .int .i64 0, .int .i64 0] (0, 0) (.slice none 0 0) (.int .i64 0) (.int .i64 3) rfl rfl rfl rfl HK.out rfl) rfl (rparse_failed HP.out rfl ((Fr.refl w).alloc _))
  · have q : ¬ (65536 : Int) < (text.size : Int) := by omega
    have HBIG := Lib.hid hbig
    clear hbig
    go_enter Tryd.func8, Tryd.ntmps8
    go_wp2_with fail
    refine (lines_ text _ hs).mono ?_
    rintro e w1 ⟨v, rfl, hown, f1⟩
    have F0 : Fr No w (w.alloc (.cells #[.int .i64 0, .int .i64 0, .int .i64 0, .int .i64 0, .int .i64 0] 29)) := (Fr.refl _).alloc _
    have K1 := f1.block_of (new_at w (.cells #[.int .i64 0, .int .i64 0, .int .i64 0, .int .i64 0, .int .i64 0] 29)) id
    have F1 : Fr No w w1 := F0.trans f1 (fun _ _ e => e)
    have hsz1 : w.heap.size < w1.heap.size := lt_of_block K1
    have I1 := InAt.of_own (base := _) (e := 9) (xs := (Scr.rlines text).1.map .string) (by rw [List.length_map]; exact hown)
    have hlx : ∀ x ∈ Scr.lines text, x.size ≤ 1048576 := fun x hx => by
      have : x ∈ Scr.parts Scr.newline text := List.mem_of_mem_take hx
      exact Nat.le_trans (splitB_size _ _ _ _ this) hs
    have hll : (Scr.last text).size ≤ 1048576 := by
      have : Scr.last text ∈ Scr.parts Scr.newline text := by rw [Scr.parts_last]; simp
      exact Nat.le_trans (splitB_size _ _ _ _ this) hs
    have HLX := Lib.hid hlx
    have HLL := Lib.hid hll
    clear hown F0 f1 hlx hll
    by_cases hlong : 2048 < (Scr.rlines text).1.length
    · have HP := Lib.hid (Scr.parse_long ((Scr.long_eq text).2 (.inr hlong)))
      obtain ⟨a, c, rfl, hc, _⟩ := I1
      rw [List.length_map] at hc ⊢
      have q2 : (2048 : Int) < ((Scr.rlines text).1.length : Int) := by omega
      generalize (Scr.rlines text).2 = q3 at *
      generalize (Scr.rlines text).1.length = n at *
      obtain ⟨⟨p0, r0⟩, ⟨p1, r1⟩, ⟨p2, r2⟩, ⟨p3, r3⟩, ⟨p4, r4⟩⟩ := rows5 K1
      have HK := Lib.hid K1
      clear K1
      go_wp2_with fail
      exact bodyPost_ret (results8_ _ _ w.heap.size #[.int .i64 0, .int .i64 0, .int .i64 0, .int .i64 0, .int .i64 0] (0, 0) (.slice none 0 0) (.int .i64 0) (.int .i64 3) rfl rfl rfl rfl (row5 _ _ _ _ _ _ _ _ _ _ HK.out) rfl) rfl (rparse_failed HP.out rfl (row5_fr _ _ _ _ _ F1 (.inr (Nat.le_refl _))))
    · have HNL := Lib.hid (Scr.not_long HBIG.out hlong)
      obtain ⟨i0, hi0, hz0, hz1, hz2⟩ := info_parts Tryd.info47
      have HI := Lib.hid hi0
      have HZ0 := Lib.hid hz0
      have HZ1 := Lib.hid hz1
      have HZ2 := Lib.hid hz2
      clear hi0 hz0 hz1 hz2
      by_cases hend : (Scr.last text).data.toList = []
      · have HEND := Lib.hid hend
        rw [Scr.rlines_end hend] at I1 hlong ⊢
        dsimp only at I1 hlong ⊢
        obtain ⟨a, cp, rfl, hc, hcell⟩ := I1
        rw [List.length_map] at hc ⊢
        have hat : ∀ j s, (Scr.lines text)[j]? = some s → ∃ b off, a = some ⟨b, off, none⟩ ∧ b < w1.heap.size ∧ w1.cell? ⟨b, off + j, none⟩ = some (.string s) := by
          intro j s hj
          rcases hcell with h | ⟨b, off, rfl, hb, h⟩
          · have : Scr.lines text = [] := by simpa using h
            rw [this] at hj; simp at hj
          · exact ⟨b, off, rfl, hb, h j _ (by simp [hj])⟩
        have HAT := Lib.hid hat
        have HCP := Lib.hid hc
        clear hat hcell hc hend
        obtain ⟨N, hN⟩ : ∃ N, N = (Scr.lines text).length := ⟨_, rfl⟩
        rw [← hN] at hlong HCP ⊢
        have HN := Lib.hid hN
        clear hN
        have q2 : ¬ (2048 : Int) < ((N : Nat) : Int) := by omega
        go_wp2_with fail
        have k8 := new_at w1 (.cells #[.int .i64 0, .int .i64 0, .int .i64 0, .int .i64 0, .int .i64 0] 29)
        have k2 := (Fr.refl (S := No) w1).alloc (.cells #[.int .i64 0, .int .i64 0, .int .i64 0, .int .i64 0, .int .i64 0] 29) |>.block_of K1 id
        have PI0 : PInv w (w1.alloc (.cells #[.int .i64 0, .int .i64 0, .int .i64 0, .int .i64 0, .int .i64 0] 29)) text w.heap.size w1.heap.size (w1.heap.size + 1) 0 Scr.Cfg.zero [] (.slice none 0 0) := by
          have z : I64 0 := i64_lit 0 (by decide)
          exact ⟨rfl, REvs.nil _ _, Nat.le_refl _, k2, k8, F1.alloc _, ⟨z, z, z, z, z⟩, fun _ => ⟨rfl, rfl, rfl⟩, ⟨by simp, by omega, hsz1, Nat.le_refl _⟩⟩
        have FA : Fr No w1 (w1.alloc (.cells #[.int .i64 0, .int .i64 0, .int .i64 0, .int .i64 0, .int .i64 0] 29)) := (Fr.refl w1).alloc _
        have HPI := Lib.hid PI0
        have HFA := Lib.hid FA
        clear PI0 k8 k2 K1 FA
        obtain ⟨B8, hB8⟩ : ∃ B, B = w1.heap.size := ⟨_, rfl⟩
        go_loopw [9, 10] (fun lv iv wr => ∃ (i : Nat) (c : Scr.Cfg) (evs : List Scr.Ev), iv = .int .i64 i ∧ i ≤ N ∧ Hid (PInv w wr text w.heap.size w1.heap.size (w1.heap.size + 1) i c evs lv) ∧ Hid (Fr (· = w1.heap.size) w1 wr)) (fun _ iv _ => N + 1 - (intOf iv).toNat)
        case atStart => exact ⟨0, _, _, rfl, Nat.zero_le _, HPI, HFA.out.of_no⟩
        case round =>
          obtain ⟨i, c, evs, rfl, hiN, PI, FS⟩ := hrel
          clear HPI HFA
          by_cases hlt : i < N
          · have hdr : (Scr.lines text).drop i = (Scr.lines text)[i]'(by rw [← HN.out]; exact hlt) :: (Scr.lines text).drop (i + 1) := List.drop_eq_getElem_cons (by rw [← HN.out]; exact hlt)
            have hgi : (Scr.lines text)[i]? = some ((Scr.lines text)[i]'(by rw [← HN.out]; exact hlt)) := List.getElem?_eq_getElem _
            have hsz : ((Scr.lines text)[i]'(by rw [← HN.out]; exact hlt)).size ≤ 1048576 := HLX.out _ (List.getElem_mem _)
            generalize (Scr.lines text)[i]'(by rw [← HN.out]; exact hlt) = ln at hdr hgi hsz
            obtain ⟨b, off, rfl, hb, hcl⟩ := HAT.out i ln hgi
            have HRD := Lib.hid (show Scr.readAll 0 Scr.Cfg.zero [] (Scr.lines text) = Scr.readAll i c evs (ln :: (Scr.lines text).drop (i + 1)) by rw [PI.out.rd, hdr])
            have cl := FS.out.cell_of hcl (by simp; omega)
            clear hdr hgi hcl
            have qlt : (i : Int) < (N : Int) := by omega
            have W8 : 8 ≤ wr.heap.size := Nat.le_trans h8 PI.out.fr.size
            by_cases hi0 : i = 0
            · subst hi0
              obtain ⟨rfl, rfl, rfl⟩ := PI.out.first rfl
              have cl0 : wr.cell? ⟨b, off, none⟩ = some (.string ln) := cl
              clear cl
              go_wp2_with fail
              refine (rconfig_ ln wr W8 hsz).mono ?_
              rintro e w3 ⟨c1, hc1, rfl, hI1, f3⟩
              have FX : Fr No wr (w3.alloc (.cells #[.int .i64 c1.servers, .int .i64 c1.clients, .int .i64 c1.sectors, .int .i64 c1.journal, .int .i64 c1.tries] 29)) := f3.alloc _
              have k8 := FX.block_of PI.out.k8 id
              have k2 := FX.block_of PI.out.k2 id
              obtain ⟨⟨s0, t0⟩, ⟨s1, t1⟩, ⟨s2, t2⟩, ⟨s3, t3⟩, ⟨s4, t4⟩⟩ := rows5 k8
              have HK8 := Lib.hid k8
              have HK2 := Lib.hid k2
              have HC1 := Lib.hid hc1
              have HI1 := Lib.hid hI1
              clear k8 k2 hc1 hI1 cl0
              obtain ⟨q, hq⟩ : ∃ q, (Scr.config1 (Scr.parts Scr.space ln)).isSome = q := ⟨_, rfl⟩
              rw [hq]
              have HQ := Lib.hid hq
              clear hq
              have HB := Lib.hid PI.out.base
              have nb : w1.heap.size ≠ w.heap.size := by omega
              go_upto_region 19 with fail
              have k8b := row5 (b := w1.heap.size) _ _ _ _ _ (.int .i64 c1.servers) (.int .i64 c1.clients) (.int .i64 c1.sectors) (.int .i64 c1.journal) (.int .i64 c1.tries) HK8.out
              have k2b := row5_off (b := w1.heap.size) (.int .i64 c1.servers) (.int .i64 c1.clients) (.int .i64 c1.sectors) (.int .i64 c1.journal) (.int .i64 c1.tries) HK2.out nb.symm
              have FY := row5_fr (S := No) (b := w1.heap.size) (.int .i64 c1.servers) (.int .i64 c1.clients) (.int .i64 c1.sectors) (.int .i64 c1.journal) (.int .i64 c1.tries) (PI.out.fr.trans FX (fun _ _ e => e)) (.inr (by omega))
              have FZ := row5_fr (S := (· = w1.heap.size)) (b := w1.heap.size) (.int .i64 c1.servers) (.int .i64 c1.clients) (.int .i64 c1.sectors) (.int .i64 c1.journal) (.int .i64 c1.tries) (FS.out.trans FX (fun _ _ e => e.elim)) (.inl rfl)
              have hsz5 : wr.heap.size ≤ ((((((w3.alloc (.cells #[.int .i64 c1.servers, .int .i64 c1.clients, .int .i64 c1.sectors, .int .i64 c1.journal, .int .i64 c1.tries] 29)).setCell ⟨w1.heap.size, 0, none⟩ (.int .i64 c1.servers)).setCell ⟨w1.heap.size, 1, none⟩ (.int .i64 c1.clients)).setCell ⟨w1.heap.size, 2, none⟩ (.int .i64 c1.sectors)).setCell ⟨w1.heap.size, 3, none⟩ (.int .i64 c1.journal)).setCell ⟨w1.heap.size, 4, none⟩ (.int .i64 c1.tries)).heap.size := by have := FX.size; simpa [World.setCell] using this
              clear s0 t0 s1 t1 s2 t2 s3 t3 s4 t4 FX HK8 HK2 f3
              generalize ((((((w3.alloc (.cells #[.int .i64 c1.servers, .int .i64 c1.clients, .int .i64 c1.sectors, .int .i64 c1.journal, .int .i64 c1.tries] 29)).setCell ⟨w1.heap.size, 0, none⟩ (.int .i64 c1.servers)).setCell ⟨w1.heap.size, 1, none⟩ (.int .i64 c1.clients)).setCell ⟨w1.heap.size, 2, none⟩ (.int .i64 c1.sectors)).setCell ⟨w1.heap.size, 3, none⟩ (.int .i64 c1.journal)).setCell ⟨w1.heap.size, 4, none⟩ (.int .i64 c1.tries)) = w5 at *
              cases q
              · have hnone : Scr.config1 (Scr.parts Scr.space ln) = none := by
                  have := HQ.out
                  cases hh : Scr.config1 (Scr.parts Scr.space ln) with
                  | none => rfl
                  | some x => rw [hh] at this; cases this
                have hnone2 : Scr.readLine ((0 : Nat) : Int) Scr.Cfg.zero [] ln = none := by rw [show ((0 : Nat) : Int) = 0 from rfl, Scr.readLine_zero, hnone]; rfl
                have HNN := Lib.hid hnone2
                clear hnone hnone2
                obtain ⟨⟨s0, t0⟩, ⟨s1, t1⟩, ⟨s2, t2⟩, ⟨s3, t3⟩, ⟨s4, t4⟩⟩ := rows5 k2b
                have HP := Lib.hid (Scr.parse_bad' HNL.out HRD.out HNN.out)
                clear k8b
                have HK2 := Lib.hid k2b
                clear k2b
                go_wp2_with fail
                exact bodyPost_ret (results8_ _ _ w.heap.size #[.int .i64 0, .int .i64 0, .int .i64 0, .int .i64 0, .int .i64 0] (0, 0) (.slice none 0 0) (.int .i64 (((0 : Nat) : Int) + 1)) (.int .i64 18) rfl rfl rfl rfl (row5 _ _ _ _ _ _ _ _ _ _ HK2.out) rfl) rfl (rparse_failed HP.out rfl (row5_fr _ _ _ _ _ FY (.inr (Nat.le_refl _))))
              · have hsome : Scr.config1 (Scr.parts Scr.space ln) = some c1 := by
                  have h1 := HQ.out
                  have h2 := HC1.out
                  cases hh : Scr.config1 (Scr.parts Scr.space ln) with
                  | none => rw [hh] at h1; cases h1
                  | some x => rw [hh] at h2; simp at h2; rw [h2]
                have hsome2 : Scr.readLine ((0 : Nat) : Int) Scr.Cfg.zero [] ln = some (c1, []) := by rw [show ((0 : Nat) : Int) = 0 from rfl, Scr.readLine_zero, hsome]; rfl
                have PI2 : PInv w w5 text w.heap.size w1.heap.size (w1.heap.size + 1) (0 + 1) c1 [] (.slice none 0 0) := ⟨Scr.readAll_step HRD.out hsome2, REvs.nil _ _, Nat.zero_le _, k2b, k8b, FY, HI1.out, (fun h => by omega), ⟨by have := HB.out.1; omega, HB.out.2⟩⟩
                have HPI2 := Lib.hid PI2
                have HFZ := Lib.hid FZ
                clear PI2 hsome hsome2 k2b k8b FY FZ HRD PI FS HC1 HI1
                go_wp2_with fail
                go_roundw
                case rel => exact ⟨0 + 1, c1, [], by go_num, by omega, HPI2, HFZ⟩
                case measure => simp [intOf]; try omega
            · have qi0 : ((i : Int) == 0) = false := by rw [beq_eq_false_iff_ne]; omega
              go_wp2_with fail
              refine (revent_ ln wr W8 hsz).mono ?_
              rintro e w3 ⟨x, vs, hx1, rfl, hev, hnew, f3⟩
              obtain ⟨oa, ol, oc, va, vl, vc, rfl⟩ := hev.form
              obtain ⟨vss, hown, hvl, hve, hvf⟩ := (PI.out.ev.no (f3.alloc (.cells (evCells x (.slice oa ol oc) (.slice va vl vc)) 47)))
              have FX : Fr No wr (w3.alloc (.cells (evCells x (.slice oa ol oc) (.slice va vl vc)) 47)) := f3.alloc _
              have k8b := FX.block_of PI.out.k8 id
              have k2b := FX.block_of PI.out.k2 id
              have hB : ∀ q, u9.ownBlock = some q → q < wr.heap.size := fun q hq => by
                obtain ⟨_, ho, _⟩ := PI.out.ev
                exact (ho.lt q hq).2
              have hb0 : ∀ q, u9.ownBlock = some q → w1.heap.size + 1 ≤ q := fun q hq => (hown.lt q hq).1
              have hlen1 : evs.length ≤ 2048 := by have := PI.out.few; omega
              have HEV := Lib.hid (hev.fr ((Fr.refl (S := No) w3).alloc (.cells (evCells x (.slice oa ol oc) (.slice va vl vc)) 47)) (fun _ _ _ _ e => e))
              have HNEW := Lib.hid hnew
              have HVE := Lib.hid hve
              have HVF := Lib.hid hvf
              have HVL := Lib.hid hvl
              have HX1 := Lib.hid hx1
              have HBB := Lib.hid hB
              have HB0 := Lib.hid hb0
              have HB := Lib.hid PI.out.base
              have HK8 := Lib.hid k8b
              have HK2 := Lib.hid k2b
              have hsz4 : wr.heap.size ≤ w3.heap.size := f3.size
              have hbs : w1.heap.size + 1 ≤ w3.heap.size := by have := PI.out.base.1; omega
              obtain ⟨q, hq⟩ : ∃ q, (Scr.event1 (Scr.parts Scr.space ln)).isSome = q := ⟨_, rfl⟩
              rw [hq, Array.toArray_toList]
              have HQ := Lib.hid hq
              clear hq hev hnew hve hvf hvl hx1 hB hb0 k8b k2b cl
              have H13 := Lib.hid (show ∀ v ∈ ([.int .i64 x.kind, .int .i64 x.node, .int .i64 x.fate, .int .i64 x.n, .int .i64 x.op.kind, .string ⟨x.op.path.toArray⟩, .string ⟨x.op.to.toArray⟩, .int .i64 x.op.handle, .int .i64 x.op.pos, .int .i64 x.op.n, .bool x.op.writes, .slice oa ol oc, .slice va vl vc] : List Value), v.oneCell' = true from fun v hv => by simp only [List.mem_cons, List.not_mem_nil, or_false] at hv; rcases hv with rfl | rfl | rfl | rfl | rfl | rfl | rfl | rfl | rfl | rfl | rfl | rfl | rfl <;> rfl)
              unfold evCells at *
              have HFX := Lib.hid FX
              clear FX
              go_upto_region 18 with fail
              go_wp2_with (at_builtin; refine wpList_append_lies _ rfl _ _ 30 rfl (w1.heap.size + 1) 47 i0 (.agg #[.int .i64 0, .int .i64 0, .int .i64 0, .int .i64 0, .int .i64 0, .string ⟨#[]⟩, .string ⟨#[]⟩, .int .i64 0, .int .i64 0, .int .i64 0, .bool false, .slice none 0 0, .slice none 0 0]) 13 152 Tryd.underlying30 HI.out HZ0.out HZ1.out HZ2.out rfl (by decide) u9 evs.length vss.flatten rfl (hown.alloc _) ⟨w3.heap.size + 1, 0, none⟩ 1 1 [.int .i64 x.kind, .int .i64 x.node, .int .i64 x.fate, .int .i64 x.n, .int .i64 x.op.kind, .string ⟨x.op.path.toArray⟩, .string ⟨x.op.to.toArray⟩, .int .i64 x.op.handle, .int .i64 x.op.pos, .int .i64 x.op.n, .bool x.op.writes, .slice oa ol oc, .slice va vl vc] rfl rfl ?d1 H13.out (by decide) (by unfold maxLen; omega) (by omega) ?d5 (w3.heap.size + 1 + 1) ?d6 ?_)
              case d1 =>
                refine World.news_of_block (cs := #[.int .i64 x.kind, .int .i64 x.node, .int .i64 x.fate, .int .i64 x.n, .int .i64 x.op.kind, .string ⟨x.op.path.toArray⟩, .string ⟨x.op.to.toArray⟩, .int .i64 x.op.handle, .int .i64 x.op.pos, .int .i64 x.op.n, .bool x.op.writes, .slice oa ol oc, .slice va vl vc]) (t := 47) (fr := (0, 0)) ?_
                have := new_at (w3.alloc (.cells #[.int .i64 x.kind, .int .i64 x.node, .int .i64 x.fate, .int .i64 x.n, .int .i64 x.op.kind, .string ⟨x.op.path.toArray⟩, .string ⟨x.op.to.toArray⟩, .int .i64 x.op.handle, .int .i64 x.op.pos, .int .i64 x.op.n, .bool x.op.writes, .slice oa ol oc, .slice va vl vc] 47)) (.cells #[.int .i64 x.kind, .int .i64 x.node, .int .i64 x.fate, .int .i64 x.n, .int .i64 x.op.kind, .string ⟨x.op.path.toArray⟩, .string ⟨x.op.to.toArray⟩, .int .i64 x.op.handle, .int .i64 x.op.pos, .int .i64 x.op.n, .bool x.op.writes, .slice oa ol oc, .slice va vl vc] 47)
                rw [show (w3.alloc (.cells #[.int .i64 x.kind, .int .i64 x.node, .int .i64 x.fate, .int .i64 x.n, .int .i64 x.op.kind, .string ⟨x.op.path.toArray⟩, .string ⟨x.op.to.toArray⟩, .int .i64 x.op.handle, .int .i64 x.op.pos, .int .i64 x.op.n, .bool x.op.writes, .slice oa ol oc, .slice va vl vc] 47)).heap.size = w3.heap.size + 1 by simp] at this
                exact this
              case d5 => simp; omega
              case d6 => simp
              intro g cap w6 hown6 hgrow hat hgl
              have s4 : (w3.alloc (.cells #[.int .i64 x.kind, .int .i64 x.node, .int .i64 x.fate, .int .i64 x.n, .int .i64 x.op.kind, .string ⟨x.op.path.toArray⟩, .string ⟨x.op.to.toArray⟩, .int .i64 x.op.handle, .int .i64 x.op.pos, .int .i64 x.op.n, .bool x.op.writes, .slice oa ol oc, .slice va vl vc] 47)).heap.size = w3.heap.size + 1 := by simp
              have F6 : Fr (fun z => u9.ownBlock = some z) (w3.alloc (.cells #[.int .i64 x.kind, .int .i64 x.node, .int .i64 x.fate, .int .i64 x.n, .int .i64 x.op.kind, .string ⟨x.op.path.toArray⟩, .string ⟨x.op.to.toArray⟩, .int .i64 x.op.handle, .int .i64 x.op.pos, .int .i64 x.op.n, .bool x.op.writes, .slice oa ol oc, .slice va vl vc] 47)) w6 := ((Fr.refl (S := fun z => u9.ownBlock = some z) _).alloc _).grown hgrow (fun z hz => .inl hz)
              have k8b := F6.block_of HK8.out (fun e => by have := HB0.out _ e; omega)
              have k2b := F6.block_of HK2.out (fun e => by have := HB0.out _ e; omega)
              have FY : Fr No w w6 := ((PI.out.fr.trans HFX.out (fun _ _ e => e)).alloc _).grown hgrow (fun z hz => .inr (by have := HB0.out z hz; omega))
              have FZ : Fr (· = w1.heap.size) w1 w6 := ((FS.out.trans HFX.out (fun _ _ e => e.elim)).alloc _).grown hgrow (fun z hz => .inr (by have := HB0.out z hz; omega))
              have RE := REvs.push hown HVL.out HVE.out HVF.out (show w1.heap.size + 1 ≤ wr.heap.size from HB.out.1) HBB.out HEV.out HNEW.out rfl hown6 hgrow (by rw [s4]; exact hat) hgl
              have HRE := Lib.hid RE
              clear RE
              have hsz6 : w3.heap.size + 1 ≤ w6.heap.size := by have := F6.size; omega
              have HFY := Lib.hid FY
              have HFZ := Lib.hid FZ
              clear hown6 hgrow hat hgl F6 FY FZ s4 hown HK8 HK2
              go_upto_region 19 with fail
              have FY := HFY.out
              cases q
              · have hnone : Scr.event1 (Scr.parts Scr.space ln) = none := by
                  have := HQ.out
                  cases hh : Scr.event1 (Scr.parts Scr.space ln) with
                  | none => rfl
                  | some x => rw [hh] at this; cases this
                have hnone2 : Scr.readLine (i : Int) c evs ln = none := by rw [Scr.readLine_pos (by omega), hnone]; rfl
                have HNN := Lib.hid hnone2
                clear hnone hnone2
                obtain ⟨⟨s0, t0⟩, ⟨s1, t1⟩, ⟨s2, t2⟩, ⟨s3, t3⟩, ⟨s4, t4⟩⟩ := rows5 k2b
                have HP := Lib.hid (Scr.parse_bad' HNL.out HRD.out HNN.out)
                clear k8b
                have HK2 := Lib.hid k2b
                clear k2b
                go_wp2_with fail
                exact bodyPost_ret (results8_ _ _ w.heap.size #[.int .i64 0, .int .i64 0, .int .i64 0, .int .i64 0, .int .i64 0] (0, 0) (.slice none 0 0) (.int .i64 ((i : Int) + 1)) (.int .i64 18) rfl rfl rfl rfl (row5 _ _ _ _ _ _ _ _ _ _ HK2.out) rfl) rfl (rparse_failed HP.out rfl (row5_fr _ _ _ _ _ FY (.inr (Nat.le_refl _))))
              · have hsome : Scr.event1 (Scr.parts Scr.space ln) = some x := by
                  have h1 := HQ.out
                  have h2 := HX1.out
                  cases hh : Scr.event1 (Scr.parts Scr.space ln) with
                  | none => rw [hh] at h1; cases h1
                  | some y => rw [hh] at h2; simp at h2; rw [h2]
                have hsome2 : Scr.readLine (i : Int) c evs ln = some (c, evs ++ [x]) := by rw [Scr.readLine_pos (by omega), hsome]; rfl
                have PI2 : PInv w w6 text w.heap.size w1.heap.size (w1.heap.size + 1) (i + 1) c (evs ++ [x]) (.slice (some ⟨g, 0, none⟩) (evs.length + 1) cap) := ⟨Scr.readAll_step HRD.out hsome2, HRE.out, by have := PI.out.few; simp; omega, k2b, k8b, FY, PI.out.i64, (fun h => by omega), ⟨by have := HB.out.1; omega, HB.out.2⟩⟩
                have HPI2 := Lib.hid PI2
                clear PI2 hsome hsome2 k2b k8b FY HFY HRD PI FS HX1
                go_wp2_with fail
                go_roundw
                case rel => exact ⟨i + 1, c, evs ++ [x], by go_num, by omega, HPI2, HFZ⟩
                case measure => simp [intOf]; try omega
          · obtain rfl : i = N := by omega
            have hpr : Scr.readAll 0 Scr.Cfg.zero [] (Scr.lines text) = Scr.readAll i c evs [] := by rw [PI.out.rd, List.drop_eq_nil_of_le (by rw [← HN.out]; exact Nat.le_refl _)]
            have HPR := Lib.hid hpr
            clear hpr
            have nqlt : ¬ (i : Int) < (i : Int) := by omega
            have k8b := PI.out.k8
            have k2b := PI.out.k2
            have FY := PI.out.fr
            obtain ⟨⟨s0, t0⟩, ⟨s1, t1⟩, ⟨s2, t2⟩, ⟨s3, t3⟩, ⟨s4, t4⟩⟩ := rows5 k2b
            by_cases hi0 : i = 0
            · have qz : ((i : Int) == 0) = true := beq_iff_eq.2 (by omega)
              have HP := Lib.hid (Scr.parse_none HNL.out (by rw [← HN.out]; exact hi0))
              have HK2 := Lib.hid k2b
              clear k2b k8b hi0
              go_wp2_with fail
              exact bodyPost_ret (results8_ _ _ w.heap.size #[.int .i64 0, .int .i64 0, .int .i64 0, .int .i64 0, .int .i64 0] (0, 0) (.slice none 0 0) (.int .i64 1) (.int .i64 18) rfl rfl rfl rfl (row5 _ _ _ _ _ _ _ _ _ _ HK2.out) rfl) rfl (rparse_failed HP.out rfl (row5_fr _ _ _ _ _ FY (.inr (Nat.le_refl _))))
            · have qz : ((i : Int) == 0) = false := by rw [beq_eq_false_iff_ne]; omega
              have HP := Lib.hid (Scr.parse_done HNL.out HPR.out HEND.out (by rw [← HN.out]; exact hi0))
              obtain ⟨⟨m0, _⟩, ⟨m1, _⟩, ⟨m2, _⟩, ⟨m3, _⟩, ⟨m4, _⟩⟩ := rows5 k8b
              have HK2 := Lib.hid k2b
              clear k2b k8b hi0
              have HEV8 := Lib.hid PI.out.ev
              have HII := Lib.hid PI.out.i64
              go_wp2_with fail
              refine bodyPost_ret (results8_ _ _ w.heap.size #[.int .i64 c.servers, .int .i64 c.clients, .int .i64 c.sectors, .int .i64 c.journal, .int .i64 c.tries] (0, 0) u9 (.int .i64 0) (.int .i64 0) rfl rfl rfl rfl (row5 _ _ _ _ _ _ _ _ _ _ HK2.out) rfl) rfl ⟨c, evs, 0, 0, u9, HP.out, rfl, HII.out, ?_, row5_fr _ _ _ _ _ FY (.inr (Nat.le_refl _))⟩
              exact ((HEV8.out.fr (row5_fr (S := (· = w.heap.size)) _ _ _ _ _ (Fr.refl _) (.inl rfl)) (fun q hq e => by omega))).at
      · have HEND := Lib.hid hend
        rw [Scr.rlines_open hend] at I1 hlong ⊢
        dsimp only at I1 hlong ⊢
        obtain ⟨a, cp, rfl, hc, hcell⟩ := I1
        rw [List.length_map, List.length_append, List.length_singleton] at hc ⊢
        rw [List.length_append, List.length_singleton] at hlong
        have hat0 : ∀ j s, (Scr.lines text ++ [Scr.last text])[j]? = some s → ∃ b off, a = some ⟨b, off, none⟩ ∧ b < w1.heap.size ∧ w1.cell? ⟨b, off + j, none⟩ = some (.string s) := by
          intro j s hj
          rcases hcell with h | ⟨b, off, rfl, hb, h⟩
          · simp at h
          · exact ⟨b, off, rfl, hb, h j _ (by rw [List.getElem?_map, hj]; rfl)⟩
        have hat : ∀ j s, (Scr.lines text)[j]? = some s → ∃ b off, a = some ⟨b, off, none⟩ ∧ b < w1.heap.size ∧ w1.cell? ⟨b, off + j, none⟩ = some (.string s) := fun j s hj => hat0 j s (by
          have hlt : j < (Scr.lines text).length := by
            rcases Nat.lt_or_ge j (Scr.lines text).length with h | h
            · exact h
            · rw [List.getElem?_eq_none h] at hj; cases hj
          rw [List.getElem?_append_left hlt]; exact hj)
        have HATL : Hid (∃ b off, a = some ⟨b, off, none⟩ ∧ b < w1.heap.size ∧ w1.cell? ⟨b, off + (Scr.lines text).length, none⟩ = some (.string (Scr.last text))) := hat0 _ _ (by simp)
        clear hat0
        have HAT := Lib.hid hat
        have HCP := Lib.hid hc
        clear hat hcell hc hend
        obtain ⟨N, hN⟩ : ∃ N, N = (Scr.lines text).length := ⟨_, rfl⟩
        rw [← hN] at hlong HCP ⊢
        rw [← hN] at HATL
        have HN := Lib.hid hN
        clear hN
        have q2 : ¬ (2048 : Int) < ((N + 1 : Nat) : Int) := by omega
        have q2b : ¬ (2048 : Int) < ((N : Int) + 1) := by omega
        go_wp2_with fail
        have k8 := new_at w1 (.cells #[.int .i64 0, .int .i64 0, .int .i64 0, .int .i64 0, .int .i64 0] 29)
        have k2 := (Fr.refl (S := No) w1).alloc (.cells #[.int .i64 0, .int .i64 0, .int .i64 0, .int .i64 0, .int .i64 0] 29) |>.block_of K1 id
        have PI0 : PInv w (w1.alloc (.cells #[.int .i64 0, .int .i64 0, .int .i64 0, .int .i64 0, .int .i64 0] 29)) text w.heap.size w1.heap.size (w1.heap.size + 1) 0 Scr.Cfg.zero [] (.slice none 0 0) := by
          have z : I64 0 := i64_lit 0 (by decide)
          exact ⟨rfl, REvs.nil _ _, Nat.le_refl _, k2, k8, F1.alloc _, ⟨z, z, z, z, z⟩, fun _ => ⟨rfl, rfl, rfl⟩, ⟨by simp, by omega, hsz1, Nat.le_refl _⟩⟩
        have FA : Fr No w1 (w1.alloc (.cells #[.int .i64 0, .int .i64 0, .int .i64 0, .int .i64 0, .int .i64 0] 29)) := (Fr.refl w1).alloc _
        have HPI := Lib.hid PI0
        have HFA := Lib.hid FA
        clear PI0 k8 k2 K1 FA
        obtain ⟨B8, hB8⟩ : ∃ B, B = w1.heap.size := ⟨_, rfl⟩
        go_loopw [9, 10] (fun lv iv wr => ∃ (i : Nat) (c : Scr.Cfg) (evs : List Scr.Ev), iv = .int .i64 i ∧ i ≤ N ∧ Hid (PInv w wr text w.heap.size w1.heap.size (w1.heap.size + 1) i c evs lv) ∧ Hid (Fr (· = w1.heap.size) w1 wr)) (fun _ iv _ => N + 1 - (intOf iv).toNat)
        case atStart => exact ⟨0, _, _, rfl, Nat.zero_le _, HPI, HFA.out.of_no⟩
        case round =>
          obtain ⟨i, c, evs, rfl, hiN, PI, FS⟩ := hrel
          clear HPI HFA
          by_cases hlt : i < N
          · have hdr : (Scr.lines text).drop i = (Scr.lines text)[i]'(by rw [← HN.out]; exact hlt) :: (Scr.lines text).drop (i + 1) := List.drop_eq_getElem_cons (by rw [← HN.out]; exact hlt)
            have hgi : (Scr.lines text)[i]? = some ((Scr.lines text)[i]'(by rw [← HN.out]; exact hlt)) := List.getElem?_eq_getElem _
            have hsz : ((Scr.lines text)[i]'(by rw [← HN.out]; exact hlt)).size ≤ 1048576 := HLX.out _ (List.getElem_mem _)
            generalize (Scr.lines text)[i]'(by rw [← HN.out]; exact hlt) = ln at hdr hgi hsz
            obtain ⟨b, off, rfl, hb, hcl⟩ := HAT.out i ln hgi
            have HRD := Lib.hid (show Scr.readAll 0 Scr.Cfg.zero [] (Scr.lines text) = Scr.readAll i c evs (ln :: (Scr.lines text).drop (i + 1)) by rw [PI.out.rd, hdr])
            have cl := FS.out.cell_of hcl (by simp; omega)
            clear hdr hgi hcl
            have qlt : (i : Int) < (N : Int) := by omega
            have qlt1 : (i : Int) < (N : Int) + 1 := by omega
            have qlt2 : (i : Int) < ((N + 1 : Nat) : Int) := by omega
            have W8 : 8 ≤ wr.heap.size := Nat.le_trans h8 PI.out.fr.size
            by_cases hi0 : i = 0
            · subst hi0
              obtain ⟨rfl, rfl, rfl⟩ := PI.out.first rfl
              have cl0 : wr.cell? ⟨b, off, none⟩ = some (.string ln) := cl
              clear cl
              go_wp2_with fail
              refine (rconfig_ ln wr W8 hsz).mono ?_
              rintro e w3 ⟨c1, hc1, rfl, hI1, f3⟩
              have FX : Fr No wr (w3.alloc (.cells #[.int .i64 c1.servers, .int .i64 c1.clients, .int .i64 c1.sectors, .int .i64 c1.journal, .int .i64 c1.tries] 29)) := f3.alloc _
              have k8 := FX.block_of PI.out.k8 id
              have k2 := FX.block_of PI.out.k2 id
              obtain ⟨⟨s0, t0⟩, ⟨s1, t1⟩, ⟨s2, t2⟩, ⟨s3, t3⟩, ⟨s4, t4⟩⟩ := rows5 k8
              have HK8 := Lib.hid k8
              have HK2 := Lib.hid k2
              have HC1 := Lib.hid hc1
              have HI1 := Lib.hid hI1
              clear k8 k2 hc1 hI1 cl0
              obtain ⟨q, hq⟩ : ∃ q, (Scr.config1 (Scr.parts Scr.space ln)).isSome = q := ⟨_, rfl⟩
              rw [hq]
              have HQ := Lib.hid hq
              clear hq
              have HB := Lib.hid PI.out.base
              have nb : w1.heap.size ≠ w.heap.size := by omega
              go_upto_region 19 with fail
              have k8b := row5 (b := w1.heap.size) _ _ _ _ _ (.int .i64 c1.servers) (.int .i64 c1.clients) (.int .i64 c1.sectors) (.int .i64 c1.journal) (.int .i64 c1.tries) HK8.out
              have k2b := row5_off (b := w1.heap.size) (.int .i64 c1.servers) (.int .i64 c1.clients) (.int .i64 c1.sectors) (.int .i64 c1.journal) (.int .i64 c1.tries) HK2.out nb.symm
              have FY := row5_fr (S := No) (b := w1.heap.size) (.int .i64 c1.servers) (.int .i64 c1.clients) (.int .i64 c1.sectors) (.int .i64 c1.journal) (.int .i64 c1.tries) (PI.out.fr.trans FX (fun _ _ e => e)) (.inr (by omega))
              have FZ := row5_fr (S := (· = w1.heap.size)) (b := w1.heap.size) (.int .i64 c1.servers) (.int .i64 c1.clients) (.int .i64 c1.sectors) (.int .i64 c1.journal) (.int .i64 c1.tries) (FS.out.trans FX (fun _ _ e => e.elim)) (.inl rfl)
              have hsz5 : wr.heap.size ≤ ((((((w3.alloc (.cells #[.int .i64 c1.servers, .int .i64 c1.clients, .int .i64 c1.sectors, .int .i64 c1.journal, .int .i64 c1.tries] 29)).setCell ⟨w1.heap.size, 0, none⟩ (.int .i64 c1.servers)).setCell ⟨w1.heap.size, 1, none⟩ (.int .i64 c1.clients)).setCell ⟨w1.heap.size, 2, none⟩ (.int .i64 c1.sectors)).setCell ⟨w1.heap.size, 3, none⟩ (.int .i64 c1.journal)).setCell ⟨w1.heap.size, 4, none⟩ (.int .i64 c1.tries)).heap.size := by have := FX.size; simpa [World.setCell] using this
              clear s0 t0 s1 t1 s2 t2 s3 t3 s4 t4 FX HK8 HK2 f3
              generalize ((((((w3.alloc (.cells #[.int .i64 c1.servers, .int .i64 c1.clients, .int .i64 c1.sectors, .int .i64 c1.journal, .int .i64 c1.tries] 29)).setCell ⟨w1.heap.size, 0, none⟩ (.int .i64 c1.servers)).setCell ⟨w1.heap.size, 1, none⟩ (.int .i64 c1.clients)).setCell ⟨w1.heap.size, 2, none⟩ (.int .i64 c1.sectors)).setCell ⟨w1.heap.size, 3, none⟩ (.int .i64 c1.journal)).setCell ⟨w1.heap.size, 4, none⟩ (.int .i64 c1.tries)) = w5 at *
              cases q
              · have hnone : Scr.config1 (Scr.parts Scr.space ln) = none := by
                  have := HQ.out
                  cases hh : Scr.config1 (Scr.parts Scr.space ln) with
                  | none => rfl
                  | some x => rw [hh] at this; cases this
                have hnone2 : Scr.readLine ((0 : Nat) : Int) Scr.Cfg.zero [] ln = none := by rw [show ((0 : Nat) : Int) = 0 from rfl, Scr.readLine_zero, hnone]; rfl
                have HNN := Lib.hid hnone2
                clear hnone hnone2
                obtain ⟨⟨s0, t0⟩, ⟨s1, t1⟩, ⟨s2, t2⟩, ⟨s3, t3⟩, ⟨s4, t4⟩⟩ := rows5 k2b
                have HP := Lib.hid (Scr.parse_bad' HNL.out HRD.out HNN.out)
                clear k8b
                have HK2 := Lib.hid k2b
                clear k2b
                go_wp2_with fail
                exact bodyPost_ret (results8_ _ _ w.heap.size #[.int .i64 0, .int .i64 0, .int .i64 0, .int .i64 0, .int .i64 0] (0, 0) (.slice none 0 0) (.int .i64 (((0 : Nat) : Int) + 1)) (.int .i64 18) rfl rfl rfl rfl (row5 _ _ _ _ _ _ _ _ _ _ HK2.out) rfl) rfl (rparse_failed HP.out rfl (row5_fr _ _ _ _ _ FY (.inr (Nat.le_refl _))))
              · have hsome : Scr.config1 (Scr.parts Scr.space ln) = some c1 := by
                  have h1 := HQ.out
                  have h2 := HC1.out
                  cases hh : Scr.config1 (Scr.parts Scr.space ln) with
                  | none => rw [hh] at h1; cases h1
                  | some x => rw [hh] at h2; simp at h2; rw [h2]
                have hsome2 : Scr.readLine ((0 : Nat) : Int) Scr.Cfg.zero [] ln = some (c1, []) := by rw [show ((0 : Nat) : Int) = 0 from rfl, Scr.readLine_zero, hsome]; rfl
                have PI2 : PInv w w5 text w.heap.size w1.heap.size (w1.heap.size + 1) (0 + 1) c1 [] (.slice none 0 0) := ⟨Scr.readAll_step HRD.out hsome2, REvs.nil _ _, Nat.zero_le _, k2b, k8b, FY, HI1.out, (fun h => by omega), ⟨by have := HB.out.1; omega, HB.out.2⟩⟩
                have HPI2 := Lib.hid PI2
                have HFZ := Lib.hid FZ
                clear PI2 hsome hsome2 k2b k8b FY FZ HRD PI FS HC1 HI1
                go_wp2_with fail
                go_roundw
                case rel => exact ⟨0 + 1, c1, [], by go_num, by omega, HPI2, HFZ⟩
                case measure => simp [intOf]; try omega
            · have qi0 : ((i : Int) == 0) = false := by rw [beq_eq_false_iff_ne]; omega
              go_wp2_with fail
              refine (revent_ ln wr W8 hsz).mono ?_
              rintro e w3 ⟨x, vs, hx1, rfl, hev, hnew, f3⟩
              obtain ⟨oa, ol, oc, va, vl, vc, rfl⟩ := hev.form
              obtain ⟨vss, hown, hvl, hve, hvf⟩ := (PI.out.ev.no (f3.alloc (.cells (evCells x (.slice oa ol oc) (.slice va vl vc)) 47)))
              have FX : Fr No wr (w3.alloc (.cells (evCells x (.slice oa ol oc) (.slice va vl vc)) 47)) := f3.alloc _
              have k8b := FX.block_of PI.out.k8 id
              have k2b := FX.block_of PI.out.k2 id
              have hB : ∀ q, u9.ownBlock = some q → q < wr.heap.size := fun q hq => by
                obtain ⟨_, ho, _⟩ := PI.out.ev
                exact (ho.lt q hq).2
              have hb0 : ∀ q, u9.ownBlock = some q → w1.heap.size + 1 ≤ q := fun q hq => (hown.lt q hq).1
              have hlen1 : evs.length ≤ 2048 := by have := PI.out.few; omega
              have HEV := Lib.hid (hev.fr ((Fr.refl (S := No) w3).alloc (.cells (evCells x (.slice oa ol oc) (.slice va vl vc)) 47)) (fun _ _ _ _ e => e))
              have HNEW := Lib.hid hnew
              have HVE := Lib.hid hve
              have HVF := Lib.hid hvf
              have HVL := Lib.hid hvl
              have HX1 := Lib.hid hx1
              have HBB := Lib.hid hB
              have HB0 := Lib.hid hb0
              have HB := Lib.hid PI.out.base
              have HK8 := Lib.hid k8b
              have HK2 := Lib.hid k2b
              have hsz4 : wr.heap.size ≤ w3.heap.size := f3.size
              have hbs : w1.heap.size + 1 ≤ w3.heap.size := by have := PI.out.base.1; omega
              obtain ⟨q, hq⟩ : ∃ q, (Scr.event1 (Scr.parts Scr.space ln)).isSome = q := ⟨_, rfl⟩
              rw [hq, Array.toArray_toList]
              have HQ := Lib.hid hq
              clear hq hev hnew hve hvf hvl hx1 hB hb0 k8b k2b cl
              have H13 := Lib.hid (show ∀ v ∈ ([.int .i64 x.kind, .int .i64 x.node, .int .i64 x.fate, .int .i64 x.n, .int .i64 x.op.kind, .string ⟨x.op.path.toArray⟩, .string ⟨x.op.to.toArray⟩, .int .i64 x.op.handle, .int .i64 x.op.pos, .int .i64 x.op.n, .bool x.op.writes, .slice oa ol oc, .slice va vl vc] : List Value), v.oneCell' = true from fun v hv => by simp only [List.mem_cons, List.not_mem_nil, or_false] at hv; rcases hv with rfl | rfl | rfl | rfl | rfl | rfl | rfl | rfl | rfl | rfl | rfl | rfl | rfl <;> rfl)
              unfold evCells at *
              have HFX := Lib.hid FX
              clear FX
              go_upto_region 18 with fail
              go_wp2_with (at_builtin; refine wpList_append_lies _ rfl _ _ 30 rfl (w1.heap.size + 1) 47 i0 (.agg #[.int .i64 0, .int .i64 0, .int .i64 0, .int .i64 0, .int .i64 0, .string ⟨#[]⟩, .string ⟨#[]⟩, .int .i64 0, .int .i64 0, .int .i64 0, .bool false, .slice none 0 0, .slice none 0 0]) 13 152 Tryd.underlying30 HI.out HZ0.out HZ1.out HZ2.out rfl (by decide) u9 evs.length vss.flatten rfl (hown.alloc _) ⟨w3.heap.size + 1, 0, none⟩ 1 1 [.int .i64 x.kind, .int .i64 x.node, .int .i64 x.fate, .int .i64 x.n, .int .i64 x.op.kind, .string ⟨x.op.path.toArray⟩, .string ⟨x.op.to.toArray⟩, .int .i64 x.op.handle, .int .i64 x.op.pos, .int .i64 x.op.n, .bool x.op.writes, .slice oa ol oc, .slice va vl vc] rfl rfl ?d1 H13.out (by decide) (by unfold maxLen; omega) (by omega) ?d5 (w3.heap.size + 1 + 1) ?d6 ?_)
              case d1 =>
                refine World.news_of_block (cs := #[.int .i64 x.kind, .int .i64 x.node, .int .i64 x.fate, .int .i64 x.n, .int .i64 x.op.kind, .string ⟨x.op.path.toArray⟩, .string ⟨x.op.to.toArray⟩, .int .i64 x.op.handle, .int .i64 x.op.pos, .int .i64 x.op.n, .bool x.op.writes, .slice oa ol oc, .slice va vl vc]) (t := 47) (fr := (0, 0)) ?_
                have := new_at (w3.alloc (.cells #[.int .i64 x.kind, .int .i64 x.node, .int .i64 x.fate, .int .i64 x.n, .int .i64 x.op.kind, .string ⟨x.op.path.toArray⟩, .string ⟨x.op.to.toArray⟩, .int .i64 x.op.handle, .int .i64 x.op.pos, .int .i64 x.op.n, .bool x.op.writes, .slice oa ol oc, .slice va vl vc] 47)) (.cells #[.int .i64 x.kind, .int .i64 x.node, .int .i64 x.fate, .int .i64 x.n, .int .i64 x.op.kind, .string ⟨x.op.path.toArray⟩, .string ⟨x.op.to.toArray⟩, .int .i64 x.op.handle, .int .i64 x.op.pos, .int .i64 x.op.n, .bool x.op.writes, .slice oa ol oc, .slice va vl vc] 47)
                rw [show (w3.alloc (.cells #[.int .i64 x.kind, .int .i64 x.node, .int .i64 x.fate, .int .i64 x.n, .int .i64 x.op.kind, .string ⟨x.op.path.toArray⟩, .string ⟨x.op.to.toArray⟩, .int .i64 x.op.handle, .int .i64 x.op.pos, .int .i64 x.op.n, .bool x.op.writes, .slice oa ol oc, .slice va vl vc] 47)).heap.size = w3.heap.size + 1 by simp] at this
                exact this
              case d5 => simp; omega
              case d6 => simp
              intro g cap w6 hown6 hgrow hat hgl
              have s4 : (w3.alloc (.cells #[.int .i64 x.kind, .int .i64 x.node, .int .i64 x.fate, .int .i64 x.n, .int .i64 x.op.kind, .string ⟨x.op.path.toArray⟩, .string ⟨x.op.to.toArray⟩, .int .i64 x.op.handle, .int .i64 x.op.pos, .int .i64 x.op.n, .bool x.op.writes, .slice oa ol oc, .slice va vl vc] 47)).heap.size = w3.heap.size + 1 := by simp
              have F6 : Fr (fun z => u9.ownBlock = some z) (w3.alloc (.cells #[.int .i64 x.kind, .int .i64 x.node, .int .i64 x.fate, .int .i64 x.n, .int .i64 x.op.kind, .string ⟨x.op.path.toArray⟩, .string ⟨x.op.to.toArray⟩, .int .i64 x.op.handle, .int .i64 x.op.pos, .int .i64 x.op.n, .bool x.op.writes, .slice oa ol oc, .slice va vl vc] 47)) w6 := ((Fr.refl (S := fun z => u9.ownBlock = some z) _).alloc _).grown hgrow (fun z hz => .inl hz)
              have k8b := F6.block_of HK8.out (fun e => by have := HB0.out _ e; omega)
              have k2b := F6.block_of HK2.out (fun e => by have := HB0.out _ e; omega)
              have FY : Fr No w w6 := ((PI.out.fr.trans HFX.out (fun _ _ e => e)).alloc _).grown hgrow (fun z hz => .inr (by have := HB0.out z hz; omega))
              have FZ : Fr (· = w1.heap.size) w1 w6 := ((FS.out.trans HFX.out (fun _ _ e => e.elim)).alloc _).grown hgrow (fun z hz => .inr (by have := HB0.out z hz; omega))
              have RE := REvs.push hown HVL.out HVE.out HVF.out (show w1.heap.size + 1 ≤ wr.heap.size from HB.out.1) HBB.out HEV.out HNEW.out rfl hown6 hgrow (by rw [s4]; exact hat) hgl
              have HRE := Lib.hid RE
              clear RE
              have hsz6 : w3.heap.size + 1 ≤ w6.heap.size := by have := F6.size; omega
              have HFY := Lib.hid FY
              have HFZ := Lib.hid FZ
              clear hown6 hgrow hat hgl F6 FY FZ s4 hown HK8 HK2
              go_upto_region 19 with fail
              have FY := HFY.out
              cases q
              · have hnone : Scr.event1 (Scr.parts Scr.space ln) = none := by
                  have := HQ.out
                  cases hh : Scr.event1 (Scr.parts Scr.space ln) with
                  | none => rfl
                  | some x => rw [hh] at this; cases this
                have hnone2 : Scr.readLine (i : Int) c evs ln = none := by rw [Scr.readLine_pos (by omega), hnone]; rfl
                have HNN := Lib.hid hnone2
                clear hnone hnone2
                obtain ⟨⟨s0, t0⟩, ⟨s1, t1⟩, ⟨s2, t2⟩, ⟨s3, t3⟩, ⟨s4, t4⟩⟩ := rows5 k2b
                have HP := Lib.hid (Scr.parse_bad' HNL.out HRD.out HNN.out)
                clear k8b
                have HK2 := Lib.hid k2b
                clear k2b
                go_wp2_with fail
                exact bodyPost_ret (results8_ _ _ w.heap.size #[.int .i64 0, .int .i64 0, .int .i64 0, .int .i64 0, .int .i64 0] (0, 0) (.slice none 0 0) (.int .i64 ((i : Int) + 1)) (.int .i64 18) rfl rfl rfl rfl (row5 _ _ _ _ _ _ _ _ _ _ HK2.out) rfl) rfl (rparse_failed HP.out rfl (row5_fr _ _ _ _ _ FY (.inr (Nat.le_refl _))))
              · have hsome : Scr.event1 (Scr.parts Scr.space ln) = some x := by
                  have h1 := HQ.out
                  have h2 := HX1.out
                  cases hh : Scr.event1 (Scr.parts Scr.space ln) with
                  | none => rw [hh] at h1; cases h1
                  | some y => rw [hh] at h2; simp at h2; rw [h2]
                have hsome2 : Scr.readLine (i : Int) c evs ln = some (c, evs ++ [x]) := by rw [Scr.readLine_pos (by omega), hsome]; rfl
                have PI2 : PInv w w6 text w.heap.size w1.heap.size (w1.heap.size + 1) (i + 1) c (evs ++ [x]) (.slice (some ⟨g, 0, none⟩) (evs.length + 1) cap) := ⟨Scr.readAll_step HRD.out hsome2, HRE.out, by have := PI.out.few; simp; omega, k2b, k8b, FY, PI.out.i64, (fun h => by omega), ⟨by have := HB.out.1; omega, HB.out.2⟩⟩
                have HPI2 := Lib.hid PI2
                clear PI2 hsome hsome2 k2b k8b FY HFY HRD PI FS HX1
                go_wp2_with fail
                go_roundw
                case rel => exact ⟨i + 1, c, evs ++ [x], by go_num, by omega, HPI2, HFZ⟩
                case measure => simp [intOf]; try omega
          · obtain rfl : i = N := by omega
            have hpr : Scr.readAll 0 Scr.Cfg.zero [] (Scr.lines text) = Scr.readAll i c evs [] := by rw [PI.out.rd, List.drop_eq_nil_of_le (by rw [← HN.out]; exact Nat.le_refl _)]
            have HPR := Lib.hid hpr
            clear hpr
            obtain ⟨b, off, rfl, hb, hcl⟩ := HATL.out
            have cl := FS.out.cell_of hcl (by simp; omega)
            have hsz := HLL.out
            generalize Scr.last text = ln at cl hsz
            have qlt1 : (i : Int) < (i : Int) + 1 := by omega
            have qlt2 : (i : Int) < ((i + 1 : Nat) : Int) := by omega
            have qlt3 : ¬ (i : Int) < (i : Int) := by omega
            have W8 : 8 ≤ wr.heap.size := Nat.le_trans h8 PI.out.fr.size
            clear hcl
            by_cases hi0 : i = 0
            · subst hi0
              obtain ⟨rfl, rfl, rfl⟩ := PI.out.first rfl
              have cl0 : wr.cell? ⟨b, off, none⟩ = some (.string ln) := cl
              clear cl
              go_wp2_with fail
              refine (rconfig_ ln wr W8 hsz).mono ?_
              rintro e w3 ⟨c1, hc1, rfl, hI1, f3⟩
              have FX : Fr No wr (w3.alloc (.cells #[.int .i64 c1.servers, .int .i64 c1.clients, .int .i64 c1.sectors, .int .i64 c1.journal, .int .i64 c1.tries] 29)) := f3.alloc _
              have k8 := FX.block_of PI.out.k8 id
              have k2 := FX.block_of PI.out.k2 id
              obtain ⟨⟨s0, t0⟩, ⟨s1, t1⟩, ⟨s2, t2⟩, ⟨s3, t3⟩, ⟨s4, t4⟩⟩ := rows5 k8
              have HK8 := Lib.hid k8
              have HK2 := Lib.hid k2
              have HC1 := Lib.hid hc1
              have HI1 := Lib.hid hI1
              clear k8 k2 hc1 hI1 cl0
              obtain ⟨q, hq⟩ : ∃ q, (Scr.config1 (Scr.parts Scr.space ln)).isSome = q := ⟨_, rfl⟩
              rw [hq]
              have HQ := Lib.hid hq
              clear hq
              have HB := Lib.hid PI.out.base
              have nb : w1.heap.size ≠ w.heap.size := by omega
              go_upto_region 19 with fail
              have k8b := row5 (b := w1.heap.size) _ _ _ _ _ (.int .i64 c1.servers) (.int .i64 c1.clients) (.int .i64 c1.sectors) (.int .i64 c1.journal) (.int .i64 c1.tries) HK8.out
              have k2b := row5_off (b := w1.heap.size) (.int .i64 c1.servers) (.int .i64 c1.clients) (.int .i64 c1.sectors) (.int .i64 c1.journal) (.int .i64 c1.tries) HK2.out nb.symm
              have FY := row5_fr (S := No) (b := w1.heap.size) (.int .i64 c1.servers) (.int .i64 c1.clients) (.int .i64 c1.sectors) (.int .i64 c1.journal) (.int .i64 c1.tries) (PI.out.fr.trans FX (fun _ _ e => e)) (.inr (by omega))
              have FZ := row5_fr (S := (· = w1.heap.size)) (b := w1.heap.size) (.int .i64 c1.servers) (.int .i64 c1.clients) (.int .i64 c1.sectors) (.int .i64 c1.journal) (.int .i64 c1.tries) (FS.out.trans FX (fun _ _ e => e.elim)) (.inl rfl)
              have hsz5 : wr.heap.size ≤ ((((((w3.alloc (.cells #[.int .i64 c1.servers, .int .i64 c1.clients, .int .i64 c1.sectors, .int .i64 c1.journal, .int .i64 c1.tries] 29)).setCell ⟨w1.heap.size, 0, none⟩ (.int .i64 c1.servers)).setCell ⟨w1.heap.size, 1, none⟩ (.int .i64 c1.clients)).setCell ⟨w1.heap.size, 2, none⟩ (.int .i64 c1.sectors)).setCell ⟨w1.heap.size, 3, none⟩ (.int .i64 c1.journal)).setCell ⟨w1.heap.size, 4, none⟩ (.int .i64 c1.tries)).heap.size := by have := FX.size; simpa [World.setCell] using this
              clear s0 t0 s1 t1 s2 t2 s3 t3 s4 t4 FX HK8 HK2 f3
              generalize ((((((w3.alloc (.cells #[.int .i64 c1.servers, .int .i64 c1.clients, .int .i64 c1.sectors, .int .i64 c1.journal, .int .i64 c1.tries] 29)).setCell ⟨w1.heap.size, 0, none⟩ (.int .i64 c1.servers)).setCell ⟨w1.heap.size, 1, none⟩ (.int .i64 c1.clients)).setCell ⟨w1.heap.size, 2, none⟩ (.int .i64 c1.sectors)).setCell ⟨w1.heap.size, 3, none⟩ (.int .i64 c1.journal)).setCell ⟨w1.heap.size, 4, none⟩ (.int .i64 c1.tries)) = w5 at *
              obtain ⟨⟨s0, t0⟩, ⟨s1, t1⟩, ⟨s2, t2⟩, ⟨s3, t3⟩, ⟨s4, t4⟩⟩ := rows5 k2b
              have HP := Lib.hid (by have := Scr.parse_open HNL.out HPR.out HEND.out; rw [← HN.out] at this; exact this)
              clear k8b
              have HK2 := Lib.hid k2b
              clear k2b
              go_wp2_with fail
              exact bodyPost_ret (results8_ _ _ w.heap.size #[.int .i64 0, .int .i64 0, .int .i64 0, .int .i64 0, .int .i64 0] (0, 0) (.slice none 0 0) (.int .i64 (((0 : Nat) : Int) + 1)) (.int .i64 18) rfl rfl rfl rfl (row5 _ _ _ _ _ _ _ _ _ _ HK2.out) rfl) rfl (rparse_failed HP.out rfl (row5_fr _ _ _ _ _ FY (.inr (Nat.le_refl _))))
            · have qi0 : ((i : Int) == 0) = false := by rw [beq_eq_false_iff_ne]; omega
              go_wp2_with fail
              refine (revent_ ln wr W8 hsz).mono ?_
              rintro e w3 ⟨x, vs, hx1, rfl, hev, hnew, f3⟩
              obtain ⟨oa, ol, oc, va, vl, vc, rfl⟩ := hev.form
              obtain ⟨vss, hown, hvl, hve, hvf⟩ := (PI.out.ev.no (f3.alloc (.cells (evCells x (.slice oa ol oc) (.slice va vl vc)) 47)))
              have FX : Fr No wr (w3.alloc (.cells (evCells x (.slice oa ol oc) (.slice va vl vc)) 47)) := f3.alloc _
              have k8b := FX.block_of PI.out.k8 id
              have k2b := FX.block_of PI.out.k2 id
              have hB : ∀ q, u9.ownBlock = some q → q < wr.heap.size := fun q hq => by
                obtain ⟨_, ho, _⟩ := PI.out.ev
                exact (ho.lt q hq).2
              have hb0 : ∀ q, u9.ownBlock = some q → w1.heap.size + 1 ≤ q := fun q hq => (hown.lt q hq).1
              have hlen1 : evs.length ≤ 2048 := by have := PI.out.few; omega
              have HEV := Lib.hid (hev.fr ((Fr.refl (S := No) w3).alloc (.cells (evCells x (.slice oa ol oc) (.slice va vl vc)) 47)) (fun _ _ _ _ e => e))
              have HNEW := Lib.hid hnew
              have HVE := Lib.hid hve
              have HVF := Lib.hid hvf
              have HVL := Lib.hid hvl
              have HX1 := Lib.hid hx1
              have HBB := Lib.hid hB
              have HB0 := Lib.hid hb0
              have HB := Lib.hid PI.out.base
              have HK8 := Lib.hid k8b
              have HK2 := Lib.hid k2b
              have hsz4 : wr.heap.size ≤ w3.heap.size := f3.size
              have hbs : w1.heap.size + 1 ≤ w3.heap.size := by have := PI.out.base.1; omega
              obtain ⟨q, hq⟩ : ∃ q, (Scr.event1 (Scr.parts Scr.space ln)).isSome = q := ⟨_, rfl⟩
              rw [hq, Array.toArray_toList]
              have HQ := Lib.hid hq
              clear hq hev hnew hve hvf hvl hx1 hB hb0 k8b k2b cl
              have H13 := Lib.hid (show ∀ v ∈ ([.int .i64 x.kind, .int .i64 x.node, .int .i64 x.fate, .int .i64 x.n, .int .i64 x.op.kind, .string ⟨x.op.path.toArray⟩, .string ⟨x.op.to.toArray⟩, .int .i64 x.op.handle, .int .i64 x.op.pos, .int .i64 x.op.n, .bool x.op.writes, .slice oa ol oc, .slice va vl vc] : List Value), v.oneCell' = true from fun v hv => by simp only [List.mem_cons, List.not_mem_nil, or_false] at hv; rcases hv with rfl | rfl | rfl | rfl | rfl | rfl | rfl | rfl | rfl | rfl | rfl | rfl | rfl <;> rfl)
              unfold evCells at *
              have HFX := Lib.hid FX
              clear FX
              go_upto_region 18 with fail
              go_wp2_with (at_builtin; refine wpList_append_lies _ rfl _ _ 30 rfl (w1.heap.size + 1) 47 i0 (.agg #[.int .i64 0, .int .i64 0, .int .i64 0, .int .i64 0, .int .i64 0, .string ⟨#[]⟩, .string ⟨#[]⟩, .int .i64 0, .int .i64 0, .int .i64 0, .bool false, .slice none 0 0, .slice none 0 0]) 13 152 Tryd.underlying30 HI.out HZ0.out HZ1.out HZ2.out rfl (by decide) u9 evs.length vss.flatten rfl (hown.alloc _) ⟨w3.heap.size + 1, 0, none⟩ 1 1 [.int .i64 x.kind, .int .i64 x.node, .int .i64 x.fate, .int .i64 x.n, .int .i64 x.op.kind, .string ⟨x.op.path.toArray⟩, .string ⟨x.op.to.toArray⟩, .int .i64 x.op.handle, .int .i64 x.op.pos, .int .i64 x.op.n, .bool x.op.writes, .slice oa ol oc, .slice va vl vc] rfl rfl ?d1 H13.out (by decide) (by unfold maxLen; omega) (by omega) ?d5 (w3.heap.size + 1 + 1) ?d6 ?_)
              case d1 =>
                refine World.news_of_block (cs := #[.int .i64 x.kind, .int .i64 x.node, .int .i64 x.fate, .int .i64 x.n, .int .i64 x.op.kind, .string ⟨x.op.path.toArray⟩, .string ⟨x.op.to.toArray⟩, .int .i64 x.op.handle, .int .i64 x.op.pos, .int .i64 x.op.n, .bool x.op.writes, .slice oa ol oc, .slice va vl vc]) (t := 47) (fr := (0, 0)) ?_
                have := new_at (w3.alloc (.cells #[.int .i64 x.kind, .int .i64 x.node, .int .i64 x.fate, .int .i64 x.n, .int .i64 x.op.kind, .string ⟨x.op.path.toArray⟩, .string ⟨x.op.to.toArray⟩, .int .i64 x.op.handle, .int .i64 x.op.pos, .int .i64 x.op.n, .bool x.op.writes, .slice oa ol oc, .slice va vl vc] 47)) (.cells #[.int .i64 x.kind, .int .i64 x.node, .int .i64 x.fate, .int .i64 x.n, .int .i64 x.op.kind, .string ⟨x.op.path.toArray⟩, .string ⟨x.op.to.toArray⟩, .int .i64 x.op.handle, .int .i64 x.op.pos, .int .i64 x.op.n, .bool x.op.writes, .slice oa ol oc, .slice va vl vc] 47)
                rw [show (w3.alloc (.cells #[.int .i64 x.kind, .int .i64 x.node, .int .i64 x.fate, .int .i64 x.n, .int .i64 x.op.kind, .string ⟨x.op.path.toArray⟩, .string ⟨x.op.to.toArray⟩, .int .i64 x.op.handle, .int .i64 x.op.pos, .int .i64 x.op.n, .bool x.op.writes, .slice oa ol oc, .slice va vl vc] 47)).heap.size = w3.heap.size + 1 by simp] at this
                exact this
              case d5 => simp; omega
              case d6 => simp
              intro g cap w6 hown6 hgrow hat hgl
              have s4 : (w3.alloc (.cells #[.int .i64 x.kind, .int .i64 x.node, .int .i64 x.fate, .int .i64 x.n, .int .i64 x.op.kind, .string ⟨x.op.path.toArray⟩, .string ⟨x.op.to.toArray⟩, .int .i64 x.op.handle, .int .i64 x.op.pos, .int .i64 x.op.n, .bool x.op.writes, .slice oa ol oc, .slice va vl vc] 47)).heap.size = w3.heap.size + 1 := by simp
              have F6 : Fr (fun z => u9.ownBlock = some z) (w3.alloc (.cells #[.int .i64 x.kind, .int .i64 x.node, .int .i64 x.fate, .int .i64 x.n, .int .i64 x.op.kind, .string ⟨x.op.path.toArray⟩, .string ⟨x.op.to.toArray⟩, .int .i64 x.op.handle, .int .i64 x.op.pos, .int .i64 x.op.n, .bool x.op.writes, .slice oa ol oc, .slice va vl vc] 47)) w6 := ((Fr.refl (S := fun z => u9.ownBlock = some z) _).alloc _).grown hgrow (fun z hz => .inl hz)
              have k8b := F6.block_of HK8.out (fun e => by have := HB0.out _ e; omega)
              have k2b := F6.block_of HK2.out (fun e => by have := HB0.out _ e; omega)
              have FY : Fr No w w6 := ((PI.out.fr.trans HFX.out (fun _ _ e => e)).alloc _).grown hgrow (fun z hz => .inr (by have := HB0.out z hz; omega))
              have FZ : Fr (· = w1.heap.size) w1 w6 := ((FS.out.trans HFX.out (fun _ _ e => e.elim)).alloc _).grown hgrow (fun z hz => .inr (by have := HB0.out z hz; omega))
              have hsz6 : w3.heap.size + 1 ≤ w6.heap.size := by have := F6.size; omega
              have HFY := Lib.hid FY
              have HFZ := Lib.hid FZ
              clear hown6 hgrow hat hgl F6 FY FZ s4 hown HK8 HK2
              go_upto_region 19 with fail
              have FY := HFY.out
              obtain ⟨⟨s0, t0⟩, ⟨s1, t1⟩, ⟨s2, t2⟩, ⟨s3, t3⟩, ⟨s4, t4⟩⟩ := rows5 k2b
              have HP := Lib.hid (by have := Scr.parse_open HNL.out HPR.out HEND.out; rw [← HN.out] at this; exact this)
              clear k8b
              have HK2 := Lib.hid k2b
              clear k2b
              go_wp2_with fail
              exact bodyPost_ret (results8_ _ _ w.heap.size #[.int .i64 0, .int .i64 0, .int .i64 0, .int .i64 0, .int .i64 0] (0, 0) (.slice none 0 0) (.int .i64 ((i : Int) + 1)) (.int .i64 18) rfl rfl rfl rfl (row5 _ _ _ _ _ _ _ _ _ _ HK2.out) rfl) rfl (rparse_failed HP.out rfl (row5_fr _ _ _ _ _ FY (.inr (Nat.le_refl _))))
end Go.Proofs.YtkcgijidgppeiaaDoor
