/- A line of the script, walked: the closure reads an event. -/
import Derived.Test.YtkcgijidgppeiaaDoorP7
import Derived.Deep.RegionWith
namespace Go.Proofs.YtkcgijidgppeiaaDoor
open Go.RowKit

theorem Tryd.info50 : (Tryd.prog.info? 50).map (fun i => (i.zero, i.size, i.bytes)) = some (some (.agg #[.int .i64 0, .int .i64 0, .int .i64 0, .int .i64 0, .int .i64 0, .string ⟨#[]⟩, .string ⟨#[]⟩, .int .i64 0, .int .i64 0, .int .i64 0, .bool false, .slice none 0 0, .slice none 0 0]), 13, 152) := by kernel_rfl

theorem Sh.no {w w' : World} {base bi bc bl : Nat} {i : Int} {c : Scr.Cfg} {evs : List Scr.Ev} {lv : Value} (h : Sh w base bi bc bl i c evs lv) (f : Fr No w w') : Sh w' base bi bc bl i c evs lv :=
  ⟨h.gl.no f, f.block_of h.ki id, f.block_of h.kc id, f.block_of h.kl id, h.ev.fr f (fun _ _ _ _ e => e) (fun _ _ e => e), h.h8, Nat.le_trans h.hb f.size, h.bb, h.i64⟩

theorem EvV.shapes {w : World} {x : Scr.Ev} {a b c d e f g h i j k ob vb : Value} (hv : EvV w x [a, b, c, d, e, f, g, h, i, j, k, ob, vb]) : ∃ oa ol oc va vl vc, ob = .slice oa ol oc ∧ vb = .slice va vl vc := by
  obtain ⟨ovs, vb', he, ⟨ob', rfl, ho, _⟩, hb, _⟩ := hv
  obtain ⟨oa, ol, oc, rfl⟩ := ho.shape
  obtain ⟨va, vl, vc, rfl⟩ := hb.shape
  simp at he
  exact ⟨oa, ol, oc, va, vl, vc, by simp [he], by simp [he]⟩

/-- the event call, where there is one. -/
def EvPost (w : World) (br : Nat) (x : Scr.Ev) (r : List ByteArray) (e : Ending) (w' : World) : Prop :=
  ∃ vb ob, e = .returned (.agg #[.int .i64 x.kind, .int .i64 x.node, .int .i64 x.fate, .int .i64 x.n, .int .i64 x.op.kind, .string ⟨x.op.path.toArray⟩, .string ⟨x.op.to.toArray⟩, .int .i64 x.op.handle, .int .i64 x.op.pos, .int .i64 x.op.n, .bool x.op.writes, ob, vb]) ∧
    EvV w' x [.int .i64 x.kind, .int .i64 x.node, .int .i64 x.fate, .int .i64 x.n, .int .i64 x.op.kind, .string ⟨x.op.path.toArray⟩, .string ⟨x.op.to.toArray⟩, .int .i64 x.op.handle, .int .i64 x.op.pos, .int .i64 x.op.n, .bool x.op.writes, ob, vb] ∧
    Tag5 w' [.int .i64 x.kind, .int .i64 x.node, .int .i64 x.fate, .int .i64 x.n, .int .i64 x.op.kind, .string ⟨x.op.path.toArray⟩, .string ⟨x.op.to.toArray⟩, .int .i64 x.op.handle, .int .i64 x.op.pos, .int .i64 x.op.n, .bool x.op.writes, ob, vb] ∧
    Rd w' br r ∧ Fr (· = br) w w'

theorem event_some (br : Nat) (ws : List ByteArray) (w : World) (h : Rd w br ws) (hg : Glob w) (x : Scr.Ev) (r : List ByteArray) (he : Scr.event ws = some (x, r)) : Calls Tryd.prog 21 #[.pointer (some ⟨br, 0, none⟩)] w (EvPost w br x r) := by
  refine (event_ br ws w h hg).mono ?_
  rintro e w' (⟨x', r', v, hf, rfl, ⟨vs, rfl, hv, _, ht⟩, hr, f⟩ | ⟨hf, _, _⟩)
  · rw [he] at hf
    cases hf
    obtain ⟨ovs, vb, rfl, ⟨ob, rfl, ho⟩, hr2⟩ := hv
    exact ⟨vb, ob, rfl, ⟨_, vb, rfl, ⟨ob, rfl, ho⟩, hr2⟩, ht, hr, f⟩
  · rw [he] at hf; cases hf

theorem event_none (br : Nat) (ws : List ByteArray) (w : World) (h : Rd w br ws) (hg : Glob w) (he : Scr.event ws = none) : Calls Tryd.prog 21 #[.pointer (some ⟨br, 0, none⟩)] w fun e w' => e = .panicked oddC ∧ Fr (· = br) w w' := by
  refine (event_ br ws w h hg).mono ?_
  rintro e w' (⟨x', r', v, hf, _⟩ | ⟨hf, rfl, f⟩)
  · rw [he] at hf; cases hf
  · exact ⟨rfl, f⟩

/-- one event more. -/
theorem Sh.push {w w1 w2 : World} {base bi bc bl br gg cap : Nat} {i : Int} {c : Scr.Cfg} {evs : List Scr.Ev} {lv : Value} {x : Scr.Ev} {r : List ByteArray} {vs : List Value} {vss : List (List Value)} {o : Obj}
    (h : Sh w1 base bi bc bl i c evs lv) (f : Fr (· = br) w.drew w1) (hr : Rd w1 br r) (hlb : bl < br) (_hcb : bc < br) (h50 : lv.ownBlock ≠ some br)
    (hown : w1.ownsRow base 50 13 lv evs.length vss.flatten) (hl : vss.length = evs.length) (he : ∀ (i : Nat) (e : Scr.Ev) (vs : List Value), evs[i]? = some e → vss[i]? = some vs → EvV w1 e vs ∧ vs.length = 13)
    (ht : ∀ vs ∈ vss, Tag5 w1 vs) (hx : EvV w1 x vs) (hxt : Tag5 w1 vs) (hxl : vs.length = 13)
    (hown2 : w2.ownsRow base 50 13 (.slice (some ⟨gg, 0, none⟩) (evs.length + 1) cap) (evs.length + 1) (vss.flatten ++ vs)) (hg : (w1.alloc o).grownBy w2 lv.ownBlock) (hat : lv.ownBlock = some gg ∨ gg = w1.heap.size + 1) :
    let v' := Value.slice (some ⟨gg, 0, none⟩) (evs.length + 1) cap
    let w3 := w2.setCell ⟨bl, 0, none⟩ v'
    Sh w3 base bi bc bl i c (evs ++ [x]) v' ∧ Rd w3 br r ∧ Fr (fun k => k = br ∨ k = bc ∨ k = bl ∨ lv.ownBlock = some k) w w3 := by
  intro v' w3
  have tag : ∀ k, lv.ownBlock = some k → base ≤ k ∧ ∃ cur, w1.heap[k]? = some (.cells cur 50 (0, 0)) := by
    intro k hk
    rcases hown.2 with ⟨rfl, _⟩ | ⟨g, cp, cur, rfl, hb, hh, _⟩
    · simp [Value.ownBlock] at hk
    · simp [Value.ownBlock] at hk
      subst hk
      exact ⟨hb, cur, hh⟩
  have nbl : lv.ownBlock ≠ some bl := fun e => by
    obtain ⟨h1, _⟩ := tag bl e
    have := h.bb; omega
  have F2 : Fr (fun k => lv.ownBlock = some k) w1 w2 := ((Fr.refl (S := fun k => lv.ownBlock = some k) w1).alloc o).grown hg (fun k hk => .inl hk)
  have F3 : Fr (fun k => k = bl ∨ lv.ownBlock = some k) w1 w3 := Fr.setCell (F2.mono (fun _ _ hk => .inr hk)) (.inl (.inl rfl)) _
  have h5 : ∀ k cur fz, w1.heap[k]? = some (.cells cur 5 fz) → ¬ (k = bl ∨ lv.ownBlock = some k) := by
    rintro k cur fz hk (rfl | e)
    · rw [h.kl] at hk; simp at hk
    · obtain ⟨_, cur', hh⟩ := tag k e
      rw [hk] at hh; simp at hh
  have hsl : ∀ vs, Tag5 w1 vs → ∀ a l c, Value.slice (some a) l c ∈ vs → ¬ (a.block = bl ∨ lv.ownBlock = some a.block) := fun vs hvs a l c hm => by
    obtain ⟨cur, fz, hh⟩ := hvs a l c hm
    exact h5 _ _ _ hh
  have k2 : w2.heap[bl]? = some (.cells #[lv] 25 (0, 0)) := F2.block_of h.kl nbl
  have k3 : w3.heap[bl]? = some (.cells #[v'] 25 (0, 0)) := by
    have := setCell_at k2 0 v'
    simpa using this
  refine ⟨⟨?_, ?_, ?_, k3, ⟨vss ++ [vs], ?_, ?_, ?_, ?_⟩, h.h8, Nat.le_trans h.hb F3.size, h.bb, h.i64⟩, ?_, ?_⟩
  · refine h.gl.fr F3 ?_
    rintro k hk (rfl | e)
    · have := h.h8; omega
    · obtain ⟨h1, _⟩ := tag k e
      have := h.bb; have := h.h8; omega
  · refine F3.block_of h.ki ?_
    rintro (rfl | e)
    · have := h.ki; rw [h.kl] at this; simp at this
    · obtain ⟨_, cur', hh⟩ := tag bi e
      rw [h.ki] at hh; simp at hh
  · refine F3.block_of h.kc ?_
    rintro (rfl | e)
    · have := h.kc; rw [h.kl] at this; simp at this
    · obtain ⟨h1, _⟩ := tag bc e
      have := h.bb; omega
  · simp only [List.length_append, List.length_singleton, List.flatten_append, List.flatten_singleton]
    obtain ⟨h1, h2⟩ := hown2
    refine ⟨h1, ?_⟩
    rcases h2 with ⟨h2, _⟩ | ⟨g, cp, cur, hv, hb, hh, rest⟩
    · cases h2
    · refine .inr ⟨g, cp, cur, hv, hb, ?_, rest⟩
      refine setCell_off hh ?_ 0 v'
      have := h.bb; omega
  · simp [hl]
  · intro j e us h1 h2
    rcases Nat.lt_trichotomy j evs.length with hj | hj | hj
    · rw [List.getElem?_append_left hj] at h1
      rw [List.getElem?_append_left (by omega)] at h2
      have := he j e us h1 h2
      exact ⟨this.1.fr F3 (hsl us (ht us (List.mem_of_getElem? h2))), this.2⟩
    · subst hj
      simp at h1
      rw [List.getElem?_append_right (by omega)] at h2
      simp [hl] at h2
      subst h1; subst h2
      exact ⟨hx.fr F3 (hsl vs hxt), hxl⟩
    · rw [List.getElem?_eq_none (by simp; omega)] at h1
      cases h1
  · intro us hus
    rcases List.mem_append.1 hus with hm | hm
    · exact (ht us hm).fr F3 (hsl us (ht us hm))
    · simp at hm
      subst hm
      exact hxt.fr F3 (hsl us hxt)
  · refine hr.fr2 F3 ?_ ?_
    · rintro (e | e)
      · omega
      · exact h50 e
    · rintro k cur hk hkb (rfl | e)
      · rw [h.kl] at hk; simp at hk
      · obtain ⟨_, cur', hh⟩ := tag k e
        rw [hk] at hh; simp at hh
  · refine Fr.trans (T := fun k => k = bl ∨ lv.ownBlock = some k) (b := w1) ?_ F3 ?_
    · exact (((Fr.refl (S := (· = br)) w).drew).br_trans f).mono (fun _ _ e => .inl e)
    · rintro k _ (e | e)
      · exact .inr (.inr (.inl e))
      · exact .inr (.inr (.inr e))

set_option maxRecDepth 100000 in
set_option maxHeartbeats 800000 in
theorem read_pos (base bi bc bl br : Nat) (ws : List ByteArray) (i : Int) (hi0 : i ≠ 0) (c : Scr.Cfg) (evs : List Scr.Ev) (lv : Value) (w : World) (h : Sh w base bi bc bl i c evs lv) (hr : Rd w br ws) (hi : bi < br) (hc : bc < br) (hl : bl < br) (h50 : lv.ownBlock ≠ some br) (hev : evs.length ≤ 65536) :
    Calls Tryd.prog 19 #[.pointer (some ⟨br, 0, none⟩), .pointer (some ⟨bi, 0, none⟩), .pointer (some ⟨bc, 0, none⟩), .pointer (some ⟨bl, 0, none⟩)] w (ReadPost w base bi bc bl br ws i c evs lv) := by
  have ci : w.cell? ⟨bi, 0, none⟩ = some (.int .i64 i) := by rw [cell_at h.ki]; rfl
  have cl : w.cell? ⟨bl, 0, none⟩ = some lv := by rw [cell_at h.kl]; rfl
  have ht : (i == 0) = false := by simpa using hi0
  have HI0 := Lib.hid hi0
  clear hi0
  have h5 : ∀ cur fz, w.heap[br]? ≠ some (.cells cur 5 fz) := by
    intro cur fz e
    obtain ⟨_, _, _, bw, off, cap, hbk, _⟩ := hr
    rw [hbk] at e
    simp at e
  have H5 := Lib.hid h5
  clear h5
  cases he : Scr.event ws with
  | none =>
    have HE := Lib.hid he
    clear he
    go_enter Tryd.func19, Tryd.ntmps19
    go_wp2_with fail
    refine wp_region_any (by kernel_rfl) ?_
    try (change wpAny _ _ _ _ _ _ _ (World.drew _))
    refine wpAny_take (i := 1) (v := .pointer (some ⟨br, 0, none⟩)) rfl (by kernel_rfl) (by kernel_rfl) (by kernel_rfl) (fun _ _ _ h => h) (Or.inl ⟨by rfl, fun w => by go_simp⟩) ?_
    refine wpAny_ready (rs := [0, 2]) (by kernel_rfl) (by simp) ?_
    have HP : ∀ e w1, (e = Ending.panicked oddC ∧ Fr (· = br) w.drew w1) → ReadPost w base bi bc bl br ws i c evs lv e w1 := fun e w1 h => .inr ⟨(by rw [if_neg HI0.out]; exact HE.out), h.1, ((Fr.refl (S := (· = br)) w).drew).br_trans h.2⟩
    have HC : Calls Tryd.prog 21 #[.pointer (some ⟨br, 0, none⟩)] w.drew fun e w' => e = .panicked oddC ∧ Fr (· = br) w.drew w' := event_none br ws _ (hr.no ((Fr.refl _).drew)) (h.gl.no ((Fr.refl _).drew)) HE.out
    clear h hr H5
    refine AllReady.cons rfl (fun K hK => ?_) ?_
    · go_simp
      refine hK _ _ ?_
      clear hK K
      refine wpAny_ready (rs := [2]) (by kernel_rfl) (by simp) ?_
      refine AllReady.cons rfl (fun K hK => ?_) AllReady.nil
      go_wp2_with fail
      refine HC.mono ?_
      rintro e w1 ⟨rfl, f⟩
      exact ⟨rfl, HP _ _ ⟨rfl, f⟩⟩
    · refine AllReady.cons rfl (fun K hK => ?_) AllReady.nil
      go_wp2_with fail
      refine HC.mono ?_
      rintro e w1 ⟨rfl, f⟩
      exact ⟨rfl, HP _ _ ⟨rfl, f⟩⟩
  | some xr =>
    obtain ⟨x, r⟩ := xr
    have HE := Lib.hid he
    clear he
    go_enter Tryd.func19, Tryd.ntmps19
    go_wp2_with fail
    obtain ⟨i0, hi0, hz0, hz1, hz2⟩ := info_parts Tryd.info50
    have HI := Lib.hid hi0
    have HZ0 := Lib.hid hz0
    have HZ1 := Lib.hid hz1
    have HZ2 := Lib.hid hz2
    clear hi0 hz0 hz1 hz2
    refine wp_region_any (by kernel_rfl) ?_
    try (change wpAny _ _ _ _ _ _ _ (World.drew _))
    refine wpAny_take (i := 1) (v := .pointer (some ⟨br, 0, none⟩)) rfl (by kernel_rfl) (by kernel_rfl) (by kernel_rfl) (fun _ _ _ h => h) (Or.inl ⟨by rfl, fun w => by go_simp⟩) ?_
    refine wpAny_ready (rs := [0, 2]) (by kernel_rfl) (by simp) ?_
    have HC := event_some br ws w.drew (hr.no ((Fr.refl _).drew)) (h.gl.no ((Fr.refl _).drew)) x r HE.out
    have cl' : w.drew.cell? ⟨bl, 0, none⟩ = some lv := cl
    have H := Lib.hid h
    have HR := Lib.hid hr
    clear h hr
    refine AllReady.cons rfl (fun K hK => ?_) (AllReady.cons rfl (fun K hK => ?_) AllReady.nil)
    -- load, call, build
    go_simp
    refine hK _ _ ?_
    clear hK K
    refine wpAny_ready (rs := [2]) (by kernel_rfl) (by simp) ?_
    refine AllReady.cons rfl (fun K hK => ?_) AllReady.nil
    go_wp2_with fail
    refine HC.mono ?_
    rintro e w1 ⟨vb, ob, rfl, hv, htg, hr1, f⟩
    refine hK _ _ ?_
    clear hK K
    have cl1 : w1.cell? ⟨bl, 0, none⟩ = some lv := f.cell_of cl (Nat.ne_of_lt hl)
    obtain ⟨oa, ol, oc, va, vl, vc, rfl, rfl⟩ := hv.shapes
    refine wpAny_ready (rs := [3]) (by kernel_rfl) (by simp) ?_
    refine AllReady.cons rfl (fun K hK => ?_) AllReady.nil
    go_simp
    refine hK _ _ ?_
    clear hK K
    rotate_left
    -- call first
    go_wp2_with fail
    refine HC.mono ?_
    rintro e w1 ⟨vb, ob, rfl, hv, htg, hr1, f⟩
    refine hK _ _ ?_
    clear hK K
    rename_i hwant
    clear hwant
    have cl1 : w1.cell? ⟨bl, 0, none⟩ = some lv := f.cell_of cl (Nat.ne_of_lt hl)
    obtain ⟨oa, ol, oc, va, vl, vc, rfl, rfl⟩ := hv.shapes
    refine wpAny_ready (rs := [0, 3]) (by kernel_rfl) (by simp) ?_
    refine AllReady.cons rfl (fun K hK => ?_) (AllReady.cons rfl (fun K hK => ?_) AllReady.nil)
    go_simp
    refine hK _ _ ?_
    clear hK K
    refine wpAny_ready (rs := [3]) (by kernel_rfl) (by simp) ?_
    refine AllReady.cons rfl (fun K hK => ?_) AllReady.nil
    go_simp
    refine hK _ _ ?_
    clear hK K
    rotate_left
    go_simp
    refine hK _ _ ?_
    clear hK K
    refine wpAny_ready (rs := [0]) (by kernel_rfl) (by simp) ?_
    refine AllReady.cons rfl (fun K hK => ?_) AllReady.nil
    have cl1a := ((Fr.refl (S := No) w1).alloc (.cells #[.int .i64 x.kind, .int .i64 x.node, .int .i64 x.fate, .int .i64 x.n, .int .i64 x.op.kind, .string ⟨x.op.path.toArray⟩, .string ⟨x.op.to.toArray⟩, .int .i64 x.op.handle, .int .i64 x.op.pos, .int .i64 x.op.n, .bool x.op.writes, .slice oa ol oc, .slice va vl vc] 50 (0, 0))).cell_of cl1 id
    go_simp
    refine hK _ _ ?_
    clear hK K cl1a
    all_goals
      clear HC cl'
      have h1 := (H.out.no ((Fr.refl _).drew)).call f hi hc hl H5.out h50
      obtain ⟨vss, hown, hvl, hve, hvt⟩ := h1.ev
      have hsz := h1.hb
      have bn : some bl ≠ lv.ownBlock := fun e => by have h2 := (hown.lt bl e.symm).1; have h3 := h1.bb; omega
      have HV := Lib.hid hv
      have HTG := Lib.hid htg
      have HVE := Lib.hid hve
      have HVT := Lib.hid hvt
      have HVL := Lib.hid hvl
      clear hv htg hve hvt hvl
      refine wpAny_ready (rs := [4]) (by kernel_rfl) (by simp) ?_
      refine AllReady.cons rfl (fun K hK => ?_) AllReady.nil
      refine step_append_lies _ (by rfl) _ _ _ (by rfl) base 50 i0 _ 13 152 Tryd.underlying25 HI.out HZ0.out HZ1.out HZ2.out rfl (by omega) lv evs.length vss.flatten (by rfl) (hown.alloc _)
             ⟨w1.heap.size, 0, none⟩ 1 1 [.int .i64 x.kind, .int .i64 x.node, .int .i64 x.fate, .int .i64 x.n, .int .i64 x.op.kind, .string ⟨x.op.path.toArray⟩, .string ⟨x.op.to.toArray⟩, .int .i64 x.op.handle, .int .i64 x.op.pos, .int .i64 x.op.n, .bool x.op.writes, .slice oa ol oc, .slice va vl vc] (by rfl) (by rfl) (World.news_of_block (cs := #[.int .i64 x.kind, .int .i64 x.node, .int .i64 x.fate, .int .i64 x.n, .int .i64 x.op.kind, .string ⟨x.op.path.toArray⟩, .string ⟨x.op.to.toArray⟩, .int .i64 x.op.handle, .int .i64 x.op.pos, .int .i64 x.op.n, .bool x.op.writes, .slice oa ol oc, .slice va vl vc]) (t := 50) (fr := (0, 0)) (heap_alloc_new w1 _)) (by simp [Value.oneCell'])
             (by omega) (by unfold maxLen; omega) (by omega) (by simp; omega) (w1.heap.size + 1) (by simp) ?_
      intro gg cap w2 hown2 hgrow hat hlt
      have k2 : w2.heap[bl]? = some (.cells #[lv] 25 (0, 0)) := by
        rw [hgrow.block bl (by have := lt_of_block h1.kl; simp; omega) bn]
        exact ((Fr.refl (S := No) w1).alloc _).block_of h1.kl id
      have cl2 : w2.cell? ⟨bl, 0, none⟩ = some lv := by rw [cell_at k2]; rfl
      have fz2 := frozen_at k2 0
      refine hK _ _ ?_
      clear hK K
      refine wpAny_ready (rs := [5]) (by kernel_rfl) (by simp) ?_
      refine AllReady.cons rfl (fun K hK => ?_) AllReady.nil
      go_simp
      refine hK _ _ ?_
      clear hK K
      refine wpAny_done (by kernel_rfl) ?_ _
      have HS := h1.push f hr1 hl hc h50 hown HVL.out HVE.out HVT.out HV.out HTG.out rfl hown2 hgrow hat
      clear hown2 hgrow hat k2 cl2 fz2 hlt hown h1
      refine bodyPost_ret (results_none rfl _ _ _) rfl (.inl ⟨c, evs ++ [x], .slice (some ⟨gg, 0, none⟩) (evs.length + 1) cap, r, ?_, rfl, HS.1, HS.2.1, HS.2.2⟩)
      rw [if_neg HI0.out]
      exact ⟨⟨x, HE.out, rfl⟩, rfl⟩
end Go.Proofs.YtkcgijidgppeiaaDoor
