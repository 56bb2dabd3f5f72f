/- Events as the program has them: the list, walked. -/
import Derived.Test.YtkcgijidgppeiaaDoorR9
import Derived.Test.YtkcgijidgppeiaaDoorR15
import Derived.Test.YtkcgijidgppeiaaDoorR16
import Derived.Deep.AppendLies
namespace Go.Proofs.YtkcgijidgppeiaaDoor
open Go.RowKit

theorem ArgEvs.at {w : World} {v : Value} {evs : List Scr.Ev} (h : ArgEvs w v evs) (hr : ∀ x ∈ evs, RoomOk x) : EvsAt w v evs := by
  obtain ⟨a, c, rfl, hc, _, h⟩ := h
  refine ⟨a, c, rfl, hc, ?_⟩
  rcases h with h | ⟨b, off, rfl, hb, h⟩
  · exact .inl h
  · refine .inr ⟨b, off, rfl, hb, fun j x hj => ?_⟩
    obtain ⟨oa, ol, oc, va, vl, vc, ⟨ho, hs, i1, i2, i3, i4, i5, i6, i7, i8, _⟩, hrg⟩ := h j x hj
    obtain ⟨r1, r2, r3, r4⟩ := hr x (List.mem_of_getElem? hj)
    exact ⟨oa, ol, oc, va, vl, vc, ⟨_, _, rfl, ⟨_, rfl, ho, i5, i6, i7, i8, by omega, by omega, by omega⟩, hs, i1, i2, i3, i4, by omega⟩, hrg⟩

/-- events that a slice of the call's own holds; their bytes lie in elder blocks. -/
def Col (T : TypeId) (w : World) (base : Nat) (v : Value) (evs : List Scr.Ev) : Prop :=
  ∃ vss : List (List Value), w.ownsRow base T 13 v evs.length vss.flatten ∧ vss.length = evs.length ∧ (∀ (i : Nat) (x : Scr.Ev) (vs : List Value), evs[i]? = some x → vss[i]? = some vs → EvV w x vs ∧ vs.length = 13) ∧
    (∀ vs ∈ vss, ∀ a l c, Value.slice (some a) l c ∈ vs → 0 < l → a.block < base)
theorem Col.nil (T : TypeId) (w : World) (base : Nat) : Col T w base (.slice none 0 0) [] := ⟨[], ⟨rfl, .inl ⟨rfl, rfl⟩⟩, rfl, (fun i e vs h => by simp at h), (fun vs h => by simp at h)⟩
theorem own_base {w : World} {base n : Nat} {T : TypeId} {v : Value} {xs : List Value} (h : w.ownsRow base T 13 v n xs) : ∀ k, v.ownBlock = some k → base ≤ k := by
  intro k hk
  rcases h.2 with ⟨rfl, _⟩ | ⟨g, cp, cur, rfl, hb, hh, _⟩
  · simp [Value.ownBlock] at hk
  · simp [Value.ownBlock] at hk
    subst hk
    exact hb
theorem Col.no {T : TypeId} {w w' : World} {base : Nat} {v : Value} {evs : List Scr.Ev} (h : Col T w base v evs) (f : Fr No w w') : Col T w' base v evs := by
  obtain ⟨vss, ho, hl, he, hf⟩ := h
  exact ⟨vss, ho.no f, hl, (fun i e vs h1 h2 => ⟨(he i e vs h1 h2).1.fr f (fun _ _ _ _ e => e), (he i e vs h1 h2).2⟩), hf⟩
theorem Col.push {T : TypeId} {w1 w2 : World} {base g cap : Nat} {v : Value} {evs : List Scr.Ev} {x : Scr.Ev} {vs : List Value} {vss : List (List Value)} {o : Obj}
    (hown : w1.ownsRow base T 13 v evs.length vss.flatten) (hl : vss.length = evs.length) (he : ∀ (i : Nat) (x : Scr.Ev) (vs : List Value), evs[i]? = some x → vss[i]? = some vs → EvV w1 x vs ∧ vs.length = 13)
    (hf : ∀ vs ∈ vss, ∀ a l c, Value.slice (some a) l c ∈ vs → 0 < l → a.block < base)
    (hx : EvV w1 x vs) (hn : ∀ a l c, Value.slice (some a) l c ∈ vs → 0 < l → a.block < base) (hxl : vs.length = 13)
    (hown2 : w2.ownsRow base T 13 (.slice (some ⟨g, 0, none⟩) (evs.length + 1) cap) (evs.length + 1) (vss.flatten ++ vs)) (hg : (w1.alloc o).grownBy w2 v.ownBlock) :
    Col T w2 base (.slice (some ⟨g, 0, none⟩) (evs.length + 1) cap) (evs ++ [x]) := by
  have F : Fr (fun k => base ≤ k) w1 w2 := ((Fr.refl (S := fun k => base ≤ k) w1).alloc o).grown hg (fun k hk => .inl (own_base hown k hk))
  refine ⟨vss ++ [vs], ?_, by simp [hl], ?_, ?_⟩
  · simpa using hown2
  · intro j e us h1 h2
    rcases Nat.lt_trichotomy j evs.length with hj | hj | hj
    · rw [List.getElem?_append_left hj] at h1
      rw [List.getElem?_append_left (by omega)] at h2
      have := he j e us h1 h2
      exact ⟨this.1.fr2 F (fun a l c hm h0 => by have := hf us (List.mem_of_getElem? h2) a l c hm h0; omega), this.2⟩
    · subst hj
      simp at h1
      rw [List.getElem?_append_right (by omega)] at h2
      simp [hl] at h2
      subst h1; subst h2
      exact ⟨hx.fr2 F (fun a l c hm h0 => by have := hn a l c hm h0; omega), hxl⟩
    · rw [List.getElem?_eq_none (by simp; omega)] at h1
      cases h1
  · intro us hus a l c hm h0
    rcases List.mem_append.1 hus with hu | hu
    · exact hf us hu a l c hm h0
    · simp at hu
      subst hu
      exact hn a l c hm h0
theorem Col.at {T : TypeId} {w : World} {base : Nat} {v : Value} {evs : List Scr.Ev} (h : Col T w base v evs) : EvsAt w v evs := by
  obtain ⟨vss, ⟨hlen, ho⟩, hl, he, _⟩ := h
  have h13 : ∀ us ∈ vss, us.length = 13 := by
    intro us hus
    obtain ⟨j, hj, rfl⟩ := List.getElem_of_mem hus
    have hj2 : j < evs.length := by omega
    exact (he j evs[j] vss[j] (List.getElem?_eq_getElem hj2) (List.getElem?_eq_getElem hj)).2
  rcases ho with ⟨rfl, h0⟩ | ⟨g, cap, cur, rfl, hb, hh, hc, _, hs, ht⟩
  · exact ⟨none, 0, by rw [h0], by omega, .inl (List.eq_nil_of_length_eq_zero h0)⟩
  · refine ⟨_, cap, rfl, hc, .inr ⟨g, 0, rfl, lt_of_block hh, fun j x hj => ?_⟩⟩
    have hj2 : j < evs.length := by
      rcases Nat.lt_or_ge j evs.length with h | h
      · exact h
      · rw [List.getElem?_eq_none h] at hj; cases hj
    have hvs : vss[j]? = some vss[j] := List.getElem?_eq_getElem (by omega)
    obtain ⟨hev, hl13⟩ := he j x _ hj hvs
    obtain ⟨oa, ol, oc, va, vl, vc, hform⟩ := hev.form
    refine ⟨oa, ol, oc, va, vl, vc, hform ▸ hev, fun i u hi => ?_⟩
    rw [← hform] at hi
    have hi13 : i < 13 := by
      rcases Nat.lt_or_ge i 13 with h | h
      · exact h
      · rw [List.getElem?_eq_none (by omega)] at hi; cases hi
    have hf := flatten_at vss j i _ h13 hvs hi13
    rw [hi, ← ht, List.getElem?_take] at hf
    split at hf
    · rw [Nat.zero_add, cell_at hh]
      simpa using hf
    · cases hf

theorem Tryd.info50' : (Tryd.prog.info? 50).map (fun i => (i.zero, i.size, i.bytes)) = some (some (.agg #[.int .i64 0, .int .i64 0, .int .i64 0, .int .i64 0, .int .i64 0, .string ⟨#[]⟩, .string ⟨#[]⟩, .int .i64 0, .int .i64 0, .int .i64 0, .bool false, .slice none 0 0, .slice none 0 0]), 13, 152) := by kernel_rfl

theorem cells_one (x : Scr.Ev) (oa va : Option Addr) (ol oc vl vc : Nat) : ∀ v ∈ ([.int .i64 x.kind, .int .i64 x.node, .int .i64 x.fate, .int .i64 x.n, .int .i64 x.op.kind, .string ⟨x.op.path.toArray⟩, .string ⟨x.op.to.toArray⟩, .int .i64 x.op.handle, .int .i64 x.op.pos, .int .i64 x.op.n, .bool x.op.writes, .slice oa ol oc, .slice va vl vc] : List Value), v.oneCell' = true := fun v hv => by
  simp only [List.mem_cons, List.not_mem_nil, or_false] at hv
  rcases hv with rfl | rfl | rfl | rfl | rfl | rfl | rfl | rfl | rfl | rfl | rfl | rfl | rfl <;> rfl

def EventsPost (w : World) (evs : List Scr.Ev) (e : Ending) (w' : World) : Prop := ∃ v, e = .returned v ∧ EvsAt w' v evs ∧ Fr No w w'

set_option maxRecDepth 100000 in
set_option maxHeartbeats 3200000 in
theorem events_ (evs : List Scr.Ev) (v : Value) (w : World) (hv : EvsAt w v evs) (hN : evs.length ≤ 1000000) : Calls Tryd.prog 14 #[v] w (EventsPost w evs) := by
  obtain ⟨a, cp, rfl, hcp, hev⟩ := hv
  have HEV := Lib.hid hev
  clear hev
  obtain ⟨i0, hi0, hz0, hz1, hz2⟩ := info_parts Tryd.info50'
  have HI := Lib.hid hi0
  have HZ0 := Lib.hid hz0
  have HZ1 := Lib.hid hz1
  have HZ2 := Lib.hid hz2
  clear hi0 hz0 hz1 hz2
  go_enter Tryd.func14, Tryd.ntmps14
  go_wp2_with fail
  go_loopw [3, 4] (fun o i wr => ∃ (j : Nat), i = .int .i64 j ∧ j ≤ evs.length ∧ Col 50 wr w.heap.size o (evs.take j) ∧ Fr No w wr) (fun _ i _ => evs.length - (intOf i).toNat)
  case atStart => exact ⟨0, rfl, Nat.zero_le _, Col.nil _ _ _, Fr.refl _⟩
  case round =>
    obtain ⟨j, rfl, hj, hcol, fr⟩ := hrel
    have HCOL := Lib.hid hcol
    clear hcol
    by_cases hlt : j < evs.length
    · have qlt : (j : Int) < (evs.length : Int) := by omega
      obtain ⟨b, off, rfl, hx⟩ : ∃ b off, a = some ⟨b, off, none⟩ ∧ ∃ oa ol oc va vl vc, EvV w evs[j] (evCells evs[j] (.slice oa ol oc) (.slice va vl vc)).toList ∧ w.rangeAt b (off + j * 13) (evCells evs[j] (.slice oa ol oc) (.slice va vl vc)).toList := by
        rcases HEV.out with h | ⟨b, off, rfl, hb, h⟩
        · rw [h] at hlt; simp at hlt
        · exact ⟨b, off, rfl, h j evs[j] (List.getElem?_eq_getElem hlt)⟩
      obtain ⟨oa, ol, oc, va, vl, vc, hv, hr⟩ := hx
      have hrr : wr.rangeAt b (off + j * 13) (evCells evs[j] (.slice oa ol oc) (.slice va vl vc)).toList := fun i u hi => fr.cell_of (hr i u hi) id
      have htk : evs.take (j + 1) = evs.take j ++ [evs[j]] := by rw [List.take_succ_eq_append_getElem hlt]
      have HTK := Lib.hid htk
      clear htk
      generalize evs[j] = x at *
      have c0 : wr.cell? ⟨b, off + j * 13, none⟩ = some (.int .i64 x.kind) := hrr 0 _ rfl
      have c1 : wr.cell? ⟨b, off + j * 13 + 1, none⟩ = some (.int .i64 x.node) := hrr 1 _ rfl
      have c2 : wr.cell? ⟨b, off + j * 13 + 2, none⟩ = some (.int .i64 x.fate) := hrr 2 _ rfl
      have c3 : wr.cell? ⟨b, off + j * 13 + 3, none⟩ = some (.int .i64 x.n) := hrr 3 _ rfl
      have c4 : wr.cell? ⟨b, off + j * 13 + 4, none⟩ = some (.int .i64 x.op.kind) := hrr 4 _ rfl
      have c5 : wr.cell? ⟨b, off + j * 13 + 5, none⟩ = some (.string ⟨x.op.path.toArray⟩) := hrr 5 _ rfl
      have c6 : wr.cell? ⟨b, off + j * 13 + 6, none⟩ = some (.string ⟨x.op.to.toArray⟩) := hrr 6 _ rfl
      have c7 : wr.cell? ⟨b, off + j * 13 + 7, none⟩ = some (.int .i64 x.op.handle) := hrr 7 _ rfl
      have c8 : wr.cell? ⟨b, off + j * 13 + 8, none⟩ = some (.int .i64 x.op.pos) := hrr 8 _ rfl
      have c9 : wr.cell? ⟨b, off + j * 13 + 9, none⟩ = some (.int .i64 x.op.n) := hrr 9 _ rfl
      have c10 : wr.cell? ⟨b, off + j * 13 + 10, none⟩ = some (.bool x.op.writes) := hrr 10 _ rfl
      have c11 : wr.cell? ⟨b, off + j * 13 + 11, none⟩ = some (.slice oa ol oc) := hrr 11 _ rfl
      have c12 : wr.cell? ⟨b, off + j * 13 + 12, none⟩ = some (.slice va vl vc) := hrr 12 _ rfl
      have HVV := Lib.hid hv
      clear hrr hr hv
      go_wp2_with fail
      have h33 := event33_ x oa va ol oc vl vc wr
      unfold evCells at h33
      with_reducible refine h33.mono ?_
      rintro e w3 ⟨rfl, f3⟩
      have hlp : (evs.take j).length = j := by rw [List.length_take]; omega
      generalize evs.take j = pre at *
      obtain ⟨vss, hown, hvl, hve, hvb⟩ := HCOL.out.no f3
      have HVL := Lib.hid hvl
      have HVE := Lib.hid hve
      have HVB := Lib.hid hvb
      have HLP := Lib.hid hlp
      have hpl : pre.length ≤ 1000000 := by omega
      have F3 : Fr No w w3 := fr.trans f3 (fun _ _ e => e)
      have hsz := F3.size
      have HX := Lib.hid (HVV.out.fr F3 (fun _ _ _ _ e => e))
      have HXB := Lib.hid HVV.out.blk
      have H13 := Lib.hid (cells_one x oa va ol oc vl vc)
      clear h33 hvl hve hvb hlp c0 c1 c2 c3 c4 c5 c6 c7 c8 c9 c10 c11 c12
      go_wp2_with (at_builtin; refine wpList_append_lies _ rfl _ _ 25 rfl w.heap.size 50 i0 (.agg #[.int .i64 0, .int .i64 0, .int .i64 0, .int .i64 0, .int .i64 0, .string ⟨#[]⟩, .string ⟨#[]⟩, .int .i64 0, .int .i64 0, .int .i64 0, .bool false, .slice none 0 0, .slice none 0 0]) 13 152 Tryd.underlying25 HI.out HZ0.out HZ1.out HZ2.out rfl (by decide) u3 pre.length vss.flatten rfl (hown.alloc _) ⟨w3.heap.size, 0, none⟩ 1 1 [.int .i64 x.kind, .int .i64 x.node, .int .i64 x.fate, .int .i64 x.n, .int .i64 x.op.kind, .string ⟨x.op.path.toArray⟩, .string ⟨x.op.to.toArray⟩, .int .i64 x.op.handle, .int .i64 x.op.pos, .int .i64 x.op.n, .bool x.op.writes, .slice oa ol oc, .slice va vl vc] rfl rfl ?d1 H13.out (by decide) (by unfold maxLen; omega) (by omega) ?d5 (w3.heap.size + 1) ?d6 ?_)
      case d1 => exact World.news_of_block (cs := #[.int .i64 x.kind, .int .i64 x.node, .int .i64 x.fate, .int .i64 x.n, .int .i64 x.op.kind, .string ⟨x.op.path.toArray⟩, .string ⟨x.op.to.toArray⟩, .int .i64 x.op.handle, .int .i64 x.op.pos, .int .i64 x.op.n, .bool x.op.writes, .slice oa ol oc, .slice va vl vc]) (t := 50) (fr := (0, 0)) (heap_alloc_new w3 _)
      case d5 => simp; omega
      case d6 => simp
      intro g cap w6 hown6 hgrow hat hgl
      have F6 : Fr No w w6 := (F3.alloc _).grown hgrow (fun z hz => .inr (own_base hown z hz))
      have RE := Col.push hown HVL.out HVE.out HVB.out HX.out HXB.out rfl hown6 hgrow
      have HRE := Lib.hid RE
      clear RE hown6 hgrow hat hgl hown
      go_wp2_with fail
      go_roundw
      case rel => exact ⟨j + 1, by go_num, by omega, by rw [HTK.out]; exact HRE.out, F6⟩
      case measure => simp [intOf]; omega
    · obtain rfl : j = evs.length := by omega
      rw [List.take_length] at HCOL
      go_wp2_with fail
      go_ret
      exact ⟨_, rfl, HCOL.out.at, fr⟩
end Go.Proofs.YtkcgijidgppeiaaDoor
