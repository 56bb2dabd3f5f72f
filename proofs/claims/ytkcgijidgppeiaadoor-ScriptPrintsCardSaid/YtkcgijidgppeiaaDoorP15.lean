/- Print, walked. -/
import Derived.Test.YtkcgijidgppeiaaDoorP14
import Derived.Deep.MidRow
namespace Go.Proofs.YtkcgijidgppeiaaDoor
open Go.RowKit

theorem said_ (x : Scr.Ev) (oa va : Option Addr) (ol oc vl vc : Nat) (w : World) (hg : Glob w) (hv : EvV w x (evCells x (.slice oa ol oc) (.slice va vl vc)).toList) (hk : 1 ≤ x.kind ∧ x.kind ≤ 10) :
    Calls Tryd.prog 31 #[.agg (evCells x (.slice oa ol oc) (.slice va vl vc))] w fun e w' => e = .returned (.string (Scr.saidB x)) ∧ Fr No w w' := by
  by_cases h : x.kind = 1
  · exact said_begin x oa va ol oc vl vc w hg hv h
  · exact said_most x oa va ol oc vl vc w hg hv (by omega)

/-- a slice that reads as events. -/
def EvsAt (w : World) (v : Value) (evs : List Scr.Ev) : Prop :=
  ∃ a c, v = .slice a evs.length c ∧ evs.length ≤ c ∧ (evs = [] ∨ ∃ b off, a = some ⟨b, off, none⟩ ∧ b < w.heap.size ∧
    ∀ j x, evs[j]? = some x → ∃ oa ol oc va vl vc, EvV w x (evCells x (.slice oa ol oc) (.slice va vl vc)).toList ∧ w.rangeAt b (off + j * 13) (evCells x (.slice oa ol oc) (.slice va vl vc)).toList)


theorem flatten_at {α : Type} : ∀ (vss : List (List α)) (j i : Nat) (vs : List α), (∀ us ∈ vss, us.length = 13) → vss[j]? = some vs → i < 13 → vss.flatten[j * 13 + i]? = vs[i]?
  | [], j, i, vs, _, h, _ => by simp at h
  | us :: r, 0, i, vs, hl, h, hi => by
    simp at h
    subst h
    have := hl us (by simp)
    rw [List.flatten_cons, List.getElem?_append_left (by omega)]
    simp
  | us :: r, j + 1, i, vs, hl, h, hi => by
    have h1 := hl us (by simp)
    simp only [List.getElem?_cons_succ] at h
    have := flatten_at r j i vs (fun z hz => hl z (by simp [hz])) h hi
    rw [List.flatten_cons, List.getElem?_append_right (by omega), ← this]
    congr 1
    omega

theorem EvV.form {w : World} {x : Scr.Ev} {vs : List Value} (h : EvV w x vs) : ∃ oa ol oc va vl vc, vs = (evCells x (.slice oa ol oc) (.slice va vl vc)).toList := by
  obtain ⟨ovs, vb, rfl, ⟨ob, rfl, ho, _⟩, hb, _⟩ := h
  obtain ⟨oa, ol, oc, rfl⟩ := ho.shape
  obtain ⟨va, vl, vc, rfl⟩ := hb.shape
  exact ⟨oa, ol, oc, va, vl, vc, rfl⟩

/-- the events that an owned slice holds are there to be read. -/
theorem Evs.at {w : World} {base : Nat} {v : Value} {evs : List Scr.Ev} (h : Evs w base v evs) : EvsAt w v evs := by
  obtain ⟨vss, ⟨hlen, ho⟩, hl, he, _⟩ := h
  have h13 : ∀ us ∈ vss, us.length = 13 := by
    intro us hus
    obtain ⟨j, hj, rfl⟩ := List.getElem_of_mem hus
    have hj2 : j < evs.length := by omega
    exact (he j evs[j] vss[j] (List.getElem?_eq_getElem hj2) (List.getElem?_eq_getElem hj)).2
  rcases ho with ⟨rfl, h0⟩ | ⟨g, cap, cur, rfl, hb, hh, hc, _, hs, ht⟩
  · exact ⟨none, 0, by rw [h0], by omega, .inl (List.eq_nil_of_length_eq_zero h0)⟩
  · refine ⟨_, cap, rfl, hc, .inr ⟨g, 0, rfl, lt_of_block hh, fun j x hj => ?_⟩⟩
    have hj2 : j < evs.length := by
      rcases Nat.lt_or_ge j evs.length with h | h
      · exact h
      · rw [List.getElem?_eq_none h] at hj; cases hj
    have hvs : vss[j]? = some vss[j] := List.getElem?_eq_getElem (by omega)
    obtain ⟨hev, hl13⟩ := he j x _ hj hvs
    obtain ⟨oa, ol, oc, va, vl, vc, hform⟩ := hev.form
    refine ⟨oa, ol, oc, va, vl, vc, hform ▸ hev, fun i u hi => ?_⟩
    rw [← hform] at hi
    have hi13 : i < 13 := by
      rcases Nat.lt_or_ge i 13 with h | h
      · exact h
      · rw [List.getElem?_eq_none (by omega)] at hi; cases hi
    have hf := flatten_at vss j i _ h13 hvs hi13
    rw [hi, ← ht, List.getElem?_take] at hf
    split at hf
    · rw [Nat.zero_add, cell_at hh]
      simpa using hf
    · cases hf

theorem EvsAt.no {w w' : World} {v : Value} {evs : List Scr.Ev} (h : EvsAt w v evs) (f : Fr No w w') : EvsAt w' v evs := by
  obtain ⟨a, c, rfl, hc, h⟩ := h
  refine ⟨a, c, rfl, hc, ?_⟩
  rcases h with h | ⟨b, off, rfl, hb, hx⟩
  · exact .inl h
  · refine .inr ⟨b, off, rfl, Nat.lt_of_lt_of_le hb f.size, fun j x hj => ?_⟩
    obtain ⟨oa, ol, oc, va, vl, vc, hv, hr⟩ := hx j x hj
    exact ⟨oa, ol, oc, va, vl, vc, hv.fr f (fun _ _ _ _ e => e), fun i u hi => f.cell_of (hr i u hi) id⟩

theorem isB_no {B b : Nat} {bs : List Value} {w w' : World} (h : Lib.IsBuilder 68 5 B b bs w) (f : Fr No w w') : Lib.IsBuilder 68 5 B b bs w' := by
  rcases h with ⟨h1, v, h2, h3, h4⟩ | ⟨h1, v, h2, h3, h4⟩
  · exact .inl ⟨h1, v, f.block_of h2 id, h3.no f, h4⟩
  · exact .inr ⟨h1, v, f.block_of h2 id, h3.no f, h4⟩

theorem rowB_size (xs : List ByteArray) (h : ∀ x ∈ xs, x.size ≤ 4194304) : (Scr.rowB xs).size ≤ xs.length * 4194305 + 1 := by
  have := join_len xs h
  unfold Scr.rowB
  rw [ByteArray.size_append]
  have e : (⟨(Lib.join (xs.map (·.data.toList)) [32]).toArray⟩ : ByteArray).size = (Lib.join (xs.map (·.data.toList)) [32]).length := by simp [ByteArray.size]
  rw [e]
  have e2 : (⟨#[10]⟩ : ByteArray).size = 1 := rfl
  omega

theorem saidWs_size {w : World} {x : Scr.Ev} {vs : List Value} (hv : EvV w x vs) : (∀ s ∈ Scr.saidWs x, s.size ≤ 4194304) ∧ (Scr.saidWs x).length ≤ 10 := by
  obtain ⟨ovs, vb, _, ⟨ob, _, _, i1, i2, i3, i4, l1, l2, l3⟩, _, i5, i6, i7, i8, l4⟩ := hv
  constructor
  · intro s hs
    unfold Scr.saidWs at hs
    rcases List.mem_append.1 hs with hs | hs
    · rcases List.mem_append.1 hs with hs | hs
      · simp at hs; subst hs; exact name_size _
      · split at hs
        · simp at hs
        · simp at hs; subst hs; exact itoa_size _ i6
    · split at hs
      · simp at hs
        rcases hs with rfl | rfl | rfl | rfl | rfl | rfl | rfl | rfl
        · exact itoa_size _ i1
        · exact hex_size _ l1
        · exact hex_size _ l2
        · exact itoa_size _ i2
        · exact itoa_size _ i3
        · exact itoa_size _ i4
        · exact bit_size _
        · exact hex_size _ l3
      · split at hs
        · simp at hs; subst hs; exact itoa_size _ i7
        · split at hs
          · simp at hs; subst hs; exact itoa_size _ i8
          · split at hs
            · simp at hs; subst hs; exact hex_size _ l4
            · simp at hs
  · unfold Scr.saidWs
    (repeat' split) <;> simp
theorem said_size {w : World} {x : Scr.Ev} {vs : List Value} (hv : EvV w x vs) : (Scr.saidB x).size ≤ 50000000 := by
  obtain ⟨h1, h2⟩ := saidWs_size hv
  have := rowB_size _ h1
  unfold Scr.saidB
  omega
theorem byteCells_append (a b : List UInt8) : Lib.byteCells (a ++ b) = Lib.byteCells a ++ Lib.byteCells b := by simp [Lib.byteCells]
theorem _root_.ByteArray.toList_data_app (a b : ByteArray) : (a ++ b).data.toList = a.data.toList ++ b.data.toList := by simp [ByteArray.data_append]
theorem name_kind {k : Int} (h : (Scr.name k).isEmpty = false) : 1 ≤ k ∧ k ≤ 10 := by
  unfold Scr.name at h
  split at h
  · assumption
  · simp at h
theorem print_bad {c : Scr.Cfg} {evs : List Scr.Ev} {out : ByteArray} {j : Nat} {x : Scr.Ev} (ha : evs.any (fun x => (Scr.name x.kind).isEmpty) = false) (hl : ¬ 2047 < evs.length) (hp : Scr.printFrom (Scr.head c) evs = Scr.printFrom out (evs.drop j)) (hd : evs.drop j = x :: evs.drop (j + 1)) (ho : 65536 < out.size) :
    Scr.print c evs = (⟨#[]⟩, 3) := by
  unfold Scr.print
  rw [if_neg (by rw [ha]; simp), if_neg hl, hp, hd, Scr.printFrom, if_pos ho]

def PrintPost (w : World) (c : Scr.Cfg) (evs : List Scr.Ev) (e : Ending) (w' : World) : Prop :=
  e = .returned (.tuple #[.string (Scr.print c evs).1, .int .i64 (Scr.print c evs).2]) ∧ Fr No w w'

set_option maxRecDepth 100000 in
set_option maxHeartbeats 1600000 in
theorem print_ (c : Scr.Cfg) (evs : List Scr.Ev) (v : Value) (w : World) (hg : Glob w) (hc : I64 c.servers ∧ I64 c.clients ∧ I64 c.sectors ∧ I64 c.journal ∧ I64 c.tries) (hv : EvsAt w v evs) (hN : evs.length ≤ 1000000) :
    Calls Tryd.prog 12 #[.agg #[.int .i64 c.servers, .int .i64 c.clients, .int .i64 c.sectors, .int .i64 c.journal, .int .i64 c.tries], v] w (PrintPost w c evs) := by
  obtain ⟨a, cp, rfl, hcp, hev⟩ := hv
  go_enter Tryd.func12, Tryd.ntmps12
  go_wp2_with fail
  have HEV := Lib.hid hev
  clear hev
  generalize hw0 : w.alloc (.cells #[.int .i64 c.servers, .int .i64 c.clients, .int .i64 c.sectors, .int .i64 c.journal, .int .i64 c.tries] 24) = w0
  have f0 : Fr No w w0 := hw0 ▸ (Fr.refl w).alloc _
  have k0 : w0.heap[w.heap.size]? = some (.cells #[.int .i64 c.servers, .int .i64 c.clients, .int .i64 c.sectors, .int .i64 c.journal, .int .i64 c.tries] 24 (0, 0)) := hw0 ▸ heap_alloc_new w _
  clear hw0
  go_loopw [13] (fun i wr => ∃ (j : Nat), i = .int .i64 j ∧ j ≤ evs.length ∧ (evs.take j).any (fun x => (Scr.name x.kind).isEmpty) = false ∧ Fr No w0 wr) (fun i _ => evs.length - (intOf i).toNat)
  case atStart => exact ⟨0, rfl, Nat.zero_le _, rfl, Fr.refl _⟩
  case round =>
    obtain ⟨j, rfl, hj, hany, fr⟩ := hrel
    have HANY := Lib.hid hany
    clear hany
    by_cases hlt : j < evs.length
    · obtain ⟨b, off, rfl, hx⟩ : ∃ b off, a = some ⟨b, off, none⟩ ∧ ∃ oa ol oc va vl vc, EvV w evs[j] (evCells evs[j] (.slice oa ol oc) (.slice va vl vc)).toList ∧ w.rangeAt b (off + j * 13) (evCells evs[j] (.slice oa ol oc) (.slice va vl vc)).toList := by
        rcases HEV.out with h | ⟨b, off, rfl, hb, h⟩
        · rw [h] at hlt; simp at hlt
        · exact ⟨b, off, rfl, h j evs[j] (List.getElem?_eq_getElem hlt)⟩
      obtain ⟨oa, ol, oc, va, vl, vc, hv, hr⟩ := hx
      have hrr : wr.rangeAt b (off + j * 13) (evCells evs[j] (.slice oa ol oc) (.slice va vl vc)).toList := fun i u hi => (f0.trans fr (fun _ _ e => e)).cell_of (hr i u hi) id
      have qlt : (j : Int) < (evs.length : Int) := by omega
      have c0 : wr.cell? ⟨b, off + j * 13, none⟩ = some (.int .i64 evs[j].kind) := hrr 0 _ rfl
      have c1 : wr.cell? ⟨b, off + j * 13 + 1, none⟩ = some (.int .i64 evs[j].node) := hrr 1 _ rfl
      have c2 : wr.cell? ⟨b, off + j * 13 + 2, none⟩ = some (.int .i64 evs[j].fate) := hrr 2 _ rfl
      have c3 : wr.cell? ⟨b, off + j * 13 + 3, none⟩ = some (.int .i64 evs[j].n) := hrr 3 _ rfl
      have c4 : wr.cell? ⟨b, off + j * 13 + 4, none⟩ = some (.int .i64 evs[j].op.kind) := hrr 4 _ rfl
      have c5 : wr.cell? ⟨b, off + j * 13 + 5, none⟩ = some (.string ⟨evs[j].op.path.toArray⟩) := hrr 5 _ rfl
      have c6 : wr.cell? ⟨b, off + j * 13 + 6, none⟩ = some (.string ⟨evs[j].op.to.toArray⟩) := hrr 6 _ rfl
      have c7 : wr.cell? ⟨b, off + j * 13 + 7, none⟩ = some (.int .i64 evs[j].op.handle) := hrr 7 _ rfl
      have c8 : wr.cell? ⟨b, off + j * 13 + 8, none⟩ = some (.int .i64 evs[j].op.pos) := hrr 8 _ rfl
      have c9 : wr.cell? ⟨b, off + j * 13 + 9, none⟩ = some (.int .i64 evs[j].op.n) := hrr 9 _ rfl
      have c10 : wr.cell? ⟨b, off + j * 13 + 10, none⟩ = some (.bool evs[j].op.writes) := hrr 10 _ rfl
      have c11 : wr.cell? ⟨b, off + j * 13 + 11, none⟩ = some (.slice oa ol oc) := hrr 11 _ rfl
      have c12 : wr.cell? ⟨b, off + j * 13 + 12, none⟩ = some (.slice va vl vc) := hrr 12 _ rfl
      generalize hxx : evs[j] = x at *
      have HXX := Lib.hid hxx
      have HVV := Lib.hid hv
      clear hr hrr hv hxx
      go_wp2_with fail
      obtain ⟨hik, _⟩ : I64 x.kind ∧ True := by
        obtain ⟨_, _, _, _, _, h1, _⟩ := HVV.out
        exact ⟨h1, trivial⟩
      refine (name_ x.kind _ hik.1 hik.2).mono ?_
      rintro e w3 ⟨rfl, rfl⟩
      have F3 : Fr No w0 (wr.alloc (.cells (evCells x (.slice oa ol oc) (.slice va vl vc)) 50)) := fr.alloc _
      obtain ⟨tn, hn⟩ : ∃ t, (⟨(Scr.name x.kind).toArray⟩ : ByteArray).toList.isEmpty = t := ⟨_, rfl⟩
      have HNN := Lib.hid hn
      clear c0 c1 c2 c3 c4 c5 c6 c7 c8 c9 c10 c11 c12
      go_wp2_with fail
      · -- no such kind
        refine bodyPost_ret (results_tmp2 rfl _ _ _) rfl ⟨?_, (f0.trans F3 (fun _ _ e => e))⟩
        have hp : Scr.print c evs = (⟨#[]⟩, 1) := by
          unfold Scr.print
          rw [if_pos]
          refine List.any_eq_true.2 ⟨x, ?_, by assumption⟩
          rw [← HXX.out]
          exact List.getElem_mem hlt
        rw [hp]
        rfl
      · go_roundw
        case rel =>
          refine ⟨j + 1, by go_num, by omega, ?_, F3⟩
          rw [List.take_succ_eq_append_getElem hlt, List.any_append, HANY.out, HXX.out]
          have hf : List.isEmpty (Scr.name x.kind) = false := by first | assumption | (simpa using (by assumption : ¬ List.isEmpty (Scr.name x.kind) = true)) | simpa using (by assumption)
          simpa using hf
        case measure => simp [intOf]; omega
    · obtain rfl : j = evs.length := by omega
      rw [List.take_length] at HANY
      have kc := fr.block_of k0 id
      have cc0 : wr.cell? ⟨w.heap.size, 0, none⟩ = some (.int .i64 c.servers) := by rw [cell_at kc]; rfl
      have cc1 : wr.cell? ⟨w.heap.size, 1, none⟩ = some (.int .i64 c.clients) := by rw [cell_at kc]; rfl
      have cc2 : wr.cell? ⟨w.heap.size, 2, none⟩ = some (.int .i64 c.sectors) := by rw [cell_at kc]; rfl
      have cc3 : wr.cell? ⟨w.heap.size, 3, none⟩ = some (.int .i64 c.journal) := by rw [cell_at kc]; rfl
      have cc4 : wr.cell? ⟨w.heap.size, 4, none⟩ = some (.int .i64 c.tries) := by rw [cell_at kc]; rfl
      have F0 : Fr No w wr := f0.trans fr (fun _ _ e => e)
      by_cases hlong : 2047 < evs.length
      · have ql : (2047 : Int) < (evs.length : Int) := by omega
        go_wp2_with fail
        refine bodyPost_ret (results_tmp2 rfl _ _ _) rfl ⟨?_, F0⟩
        have hp : Scr.print c evs = (⟨#[]⟩, 3) := by
          unfold Scr.print
          rw [if_neg (by rw [HANY.out]; simp), if_pos hlong]
        rw [hp]
        rfl
      · have ql : ¬ (2047 : Int) < (evs.length : Int) := by omega
        go_upto_region 10 with fail
        have hB := Lib.fresh_isBuilder 68 5 wr
        have F8 : Fr No wr (wr.alloc (.cells #[.pointer none, .slice none 0 0] 68)) := (Fr.refl wr).alloc _
        clear cc0 cc1 cc2 cc3 cc4
        generalize wr.alloc (.cells #[.pointer none, .slice none 0 0] 68) = w8 at *
        have kc8 := F8.block_of kc id
        have cc0 : w8.cell? ⟨w.heap.size, 0, none⟩ = some (.int .i64 c.servers) := by rw [cell_at kc8]; rfl
        have cc1 : w8.cell? ⟨w.heap.size, 1, none⟩ = some (.int .i64 c.clients) := by rw [cell_at kc8]; rfl
        have cc2 : w8.cell? ⟨w.heap.size, 2, none⟩ = some (.int .i64 c.sectors) := by rw [cell_at kc8]; rfl
        have cc3 : w8.cell? ⟨w.heap.size, 3, none⟩ = some (.int .i64 c.journal) := by rw [cell_at kc8]; rfl
        have cc4 : w8.cell? ⟨w.heap.size, 4, none⟩ = some (.int .i64 c.tries) := by rw [cell_at kc8]; rfl
        go_wp2_with fail
        have F9 : Fr No w8 (w8.alloc (.cells #[.int .i64 c.servers, .int .i64 c.clients, .int .i64 c.sectors, .int .i64 c.journal, .int .i64 c.tries] 3)) := (Fr.refl w8).alloc _
        have FG : Fr No w w8 := F0.trans F8 (fun _ _ e => e)
        refine (ints_ [c.servers, c.clients, c.sectors, c.journal, c.tries] _ _ (hg.no (FG.trans F9 (fun _ _ e => e))) ⟨_, _, rfl, Nat.le_refl _, .inr ⟨w8.heap.size, 0, rfl, by simp, fun j x hj => by
          rw [Nat.zero_add, cell_at (heap_alloc_new w8 _)]
          simpa using hj⟩⟩ (by simp; exact hc) (by simp)).mono ?_
        rintro e w9 ⟨v9, rfl, hown9, f9⟩
        have F9' : Fr No w8 w9 := F9.trans f9 (fun _ _ e => e)
        have I9 : InAt w9 v9 (([c.servers, c.clients, c.sectors, c.journal, c.tries].map Scr.itoaB).map .string) := InAt.of_own (base := _) (e := 9) hown9
        clear F9 f9 hown9 cc0 cc1 cc2 cc3 cc4
        go_wp2_with fail
        have hsz : ∀ x ∈ [Scr.itoaB c.servers, Scr.itoaB c.clients, Scr.itoaB c.sectors, Scr.itoaB c.journal, Scr.itoaB c.tries], x.size ≤ 4194304 := by
          intro x hx
          simp only [List.mem_cons, List.not_mem_nil, or_false] at hx
          rcases hx with rfl | rfl | rfl | rfl | rfl
          · exact itoa_size _ hc.1
          · exact itoa_size _ hc.2.1
          · exact itoa_size _ hc.2.2.1
          · exact itoa_size _ hc.2.2.2.1
          · exact itoa_size _ hc.2.2.2.2
        have hjl := join_len _ hsz
        have hrs := rowB_size _ hsz
        have hhead : Scr.head c = ⟨#[119, 111, 114, 108, 100, 32]⟩ ++ Scr.rowB [Scr.itoaB c.servers, Scr.itoaB c.clients, Scr.itoaB c.sectors, Scr.itoaB c.journal, Scr.itoaB c.tries] := rfl
        refine (row_ [Scr.itoaB c.servers, Scr.itoaB c.clients, Scr.itoaB c.sectors, Scr.itoaB c.journal, Scr.itoaB c.tries] _ _ I9 (by simp) (by simp only [List.length_cons, List.length_nil] at hjl; omega)).mono ?_
        rintro e w10 ⟨rfl, f10⟩
        generalize Scr.rowB [Scr.itoaB c.servers, Scr.itoaB c.clients, Scr.itoaB c.sectors, Scr.itoaB c.journal, Scr.itoaB c.tries] = rb at *
        simp only [List.length_cons, List.length_nil] at hrs
        have HHEAD := Lib.hid hhead
        have hhs : (Scr.head c).size ≤ 30000000 := by
          rw [hhead, ByteArray.size_append]
          have e : (⟨#[119, 111, 114, 108, 100, 32]⟩ : ByteArray).size = 6 := rfl
          omega
        clear hhead hjl hsz
        go_wp2_with fail
        have F10 : Fr No w8 w10 := F9'.trans f10 (fun _ _ e => e)
        have FW10 : Fr No wr w10 := F8.trans F10 (fun _ _ e => e)
        have hhz : (⟨#[119, 111, 114, 108, 100, 32]⟩ ++ rb : ByteArray).size ≤ 30000000 := by rw [HHEAD.out] at hhs; exact hhs
        refine (Tryd.Builder_WriteString wr.heap.size wr.heap.size _ _ _ (isB_no hB F10) (by rw [ByteArray.size_append] at hhz; simp; omega) FW10.size).mono ?_
        rintro e w11 ⟨rfl, hb11, hbel⟩
        have F11 : Fr No wr w11 := FW10.no_below hbel
        rw [← HHEAD.out, List.nil_append, Lib.strCells_eq] at hb11
        have hB11 : Lib.IsBuilder 68 5 wr.heap.size wr.heap.size (Lib.byteCells (Scr.head c).data.toList) w11 := .inr hb11
        rw [← HHEAD.out]
        clear hbel hb11 hB F10 FW10 hhz I9 f10 F9' hrs
        go_upto_region 11 with fail
        go_wp2_with fail
        obtain ⟨wo, rfl⟩ : ∃ wo : World, wo = wr := ⟨_, rfl⟩
        go_loopw [42] (fun i wr => ∃ (j : Nat) (out : ByteArray), i = .int .i64 j ∧ j ≤ evs.length ∧ out.size ≤ 60000000 ∧ Lib.IsBuilder 68 5 wo.heap.size wo.heap.size (Lib.byteCells out.data.toList) wr ∧
            Scr.printFrom (Scr.head c) evs = Scr.printFrom out (evs.drop j) ∧ Fr No wo wr) (fun i _ => evs.length - (intOf i).toNat)
        case atStart => exact ⟨0, Scr.head c, rfl, Nat.zero_le _, by omega, hB11, rfl, F11⟩
        case round =>
          obtain ⟨j, out, rfl, hj, hos, hB, hpf, fq⟩ := hrel
          have HPF := Lib.hid hpf
          clear hpf hB11
          have FWq : Fr No w wr := F0.trans fq (fun _ _ e => e)
          have hbl : (Lib.byteCells out.data.toList).length = out.size := by unfold Lib.byteCells; rw [List.length_map, Array.length_toList]; rfl
          have HBL := Lib.hid hbl
          clear hbl
          by_cases hlt : j < evs.length
          · obtain ⟨b, off, rfl, hx⟩ : ∃ b off, a = some ⟨b, off, none⟩ ∧ ∃ oa ol oc va vl vc, EvV w evs[j] (evCells evs[j] (.slice oa ol oc) (.slice va vl vc)).toList ∧ w.rangeAt b (off + j * 13) (evCells evs[j] (.slice oa ol oc) (.slice va vl vc)).toList := by
              rcases HEV.out with h | ⟨b, off, rfl, hb, h⟩
              · rw [h] at hlt; simp at hlt
              · exact ⟨b, off, rfl, h j evs[j] (List.getElem?_eq_getElem hlt)⟩
            obtain ⟨oa, ol, oc, va, vl, vc, hv, hr⟩ := hx
            have hrr : wr.rangeAt b (off + j * 13) (evCells evs[j] (.slice oa ol oc) (.slice va vl vc)).toList := fun i u hi => FWq.cell_of (hr i u hi) id
            have qlt : (j : Int) < (evs.length : Int) := by omega
            have c0 : wr.cell? ⟨b, off + j * 13, none⟩ = some (.int .i64 evs[j].kind) := hrr 0 _ rfl
            have c1 : wr.cell? ⟨b, off + j * 13 + 1, none⟩ = some (.int .i64 evs[j].node) := hrr 1 _ rfl
            have c2 : wr.cell? ⟨b, off + j * 13 + 2, none⟩ = some (.int .i64 evs[j].fate) := hrr 2 _ rfl
            have c3 : wr.cell? ⟨b, off + j * 13 + 3, none⟩ = some (.int .i64 evs[j].n) := hrr 3 _ rfl
            have c4 : wr.cell? ⟨b, off + j * 13 + 4, none⟩ = some (.int .i64 evs[j].op.kind) := hrr 4 _ rfl
            have c5 : wr.cell? ⟨b, off + j * 13 + 5, none⟩ = some (.string ⟨evs[j].op.path.toArray⟩) := hrr 5 _ rfl
            have c6 : wr.cell? ⟨b, off + j * 13 + 6, none⟩ = some (.string ⟨evs[j].op.to.toArray⟩) := hrr 6 _ rfl
            have c7 : wr.cell? ⟨b, off + j * 13 + 7, none⟩ = some (.int .i64 evs[j].op.handle) := hrr 7 _ rfl
            have c8 : wr.cell? ⟨b, off + j * 13 + 8, none⟩ = some (.int .i64 evs[j].op.pos) := hrr 8 _ rfl
            have c9 : wr.cell? ⟨b, off + j * 13 + 9, none⟩ = some (.int .i64 evs[j].op.n) := hrr 9 _ rfl
            have c10 : wr.cell? ⟨b, off + j * 13 + 10, none⟩ = some (.bool evs[j].op.writes) := hrr 10 _ rfl
            have c11 : wr.cell? ⟨b, off + j * 13 + 11, none⟩ = some (.slice oa ol oc) := hrr 11 _ rfl
            have c12 : wr.cell? ⟨b, off + j * 13 + 12, none⟩ = some (.slice va vl vc) := hrr 12 _ rfl
            have hdrop : evs.drop j = evs[j] :: evs.drop (j + 1) := List.drop_eq_getElem_cons hlt
            have hkk : 1 ≤ evs[j].kind ∧ evs[j].kind ≤ 10 := by
              refine name_kind ?_
              have := List.any_eq_false.1 HANY.out evs[j] (List.getElem_mem hlt)
              simpa using this
            generalize hxx : evs[j] = x at *
            have HXX := Lib.hid hxx
            have HVV := Lib.hid hv
            have HDR := Lib.hid hdrop
            have HKK := Lib.hid hkk
            clear hr hrr hv hxx hdrop hkk
            go_wp2_with fail
            have F10 : Fr No wr (wr.alloc (.cells (evCells x (.slice oa ol oc) (.slice va vl vc)) 50)) := (Fr.refl wr).alloc _
            have k10 : (wr.alloc (.cells (evCells x (.slice oa ol oc) (.slice va vl vc)) 50)).heap[wr.heap.size]? = some (.cells (evCells x (.slice oa ol oc) (.slice va vl vc)) 50 (0, 0)) := heap_alloc_new wr _
            have hB10 := isB_no hB F10
            clear c0 c1 c2 c3 c4 c5 c6 c7 c8 c9 c10 c11 c12
            refine (Tryd.Builder_Len wo.heap.size wo.heap.size (Lib.byteCells out.data.toList) _ hB10).mono ?_
            rintro e w14 ⟨rfl, hw14⟩
            rw [HBL.out]
            have F14 : Fr No wr w14 := hw14 ▸ F10
            have k14 : w14.heap[wr.heap.size]? = some (.cells (evCells x (.slice oa ol oc) (.slice va vl vc)) 50 (0, 0)) := hw14 ▸ k10
            have hB14 : Lib.IsBuilder 68 5 wo.heap.size wo.heap.size (Lib.byteCells out.data.toList) w14 := hw14 ▸ hB10
            clear hw14 F10 k10 hB10
            by_cases hbig : 65536 < out.size
            · have qb : (65536 : Int) < (out.size : Int) := by omega
              go_wp2_with fail
              refine bodyPost_ret (results_tmp2 rfl _ _ _) rfl ⟨?_, FWq.trans F14 (fun _ _ e => e)⟩
              rw [print_bad HANY.out hlong HPF.out (by rw [HDR.out]) hbig]
              rfl
            · have qb : ¬ (65536 : Int) < (out.size : Int) := by omega
              have d0 : w14.cell? ⟨wr.heap.size, 0, none⟩ = some (.int .i64 x.kind) := by rw [cell_at k14]; rfl
              have d1 : w14.cell? ⟨wr.heap.size, 1, none⟩ = some (.int .i64 x.node) := by rw [cell_at k14]; rfl
              have d2 : w14.cell? ⟨wr.heap.size, 2, none⟩ = some (.int .i64 x.fate) := by rw [cell_at k14]; rfl
              have d3 : w14.cell? ⟨wr.heap.size, 3, none⟩ = some (.int .i64 x.n) := by rw [cell_at k14]; rfl
              have d4 : w14.cell? ⟨wr.heap.size, 4, none⟩ = some (.int .i64 x.op.kind) := by rw [cell_at k14]; rfl
              have d5 : w14.cell? ⟨wr.heap.size, 5, none⟩ = some (.string ⟨x.op.path.toArray⟩) := by rw [cell_at k14]; rfl
              have d6 : w14.cell? ⟨wr.heap.size, 6, none⟩ = some (.string ⟨x.op.to.toArray⟩) := by rw [cell_at k14]; rfl
              have d7 : w14.cell? ⟨wr.heap.size, 7, none⟩ = some (.int .i64 x.op.handle) := by rw [cell_at k14]; rfl
              have d8 : w14.cell? ⟨wr.heap.size, 8, none⟩ = some (.int .i64 x.op.pos) := by rw [cell_at k14]; rfl
              have d9 : w14.cell? ⟨wr.heap.size, 9, none⟩ = some (.int .i64 x.op.n) := by rw [cell_at k14]; rfl
              have d10 : w14.cell? ⟨wr.heap.size, 10, none⟩ = some (.bool x.op.writes) := by rw [cell_at k14]; rfl
              have d11 : w14.cell? ⟨wr.heap.size, 11, none⟩ = some (.slice oa ol oc) := by rw [cell_at k14]; rfl
              have d12 : w14.cell? ⟨wr.heap.size, 12, none⟩ = some (.slice va vl vc) := by rw [cell_at k14]; rfl
              go_wp2_with fail
              have FW14 : Fr No w w14 := FWq.trans F14 (fun _ _ e => e)
              refine (said_ x oa va ol oc vl vc w14 (hg.no FW14) (HVV.out.fr FW14 (fun _ _ _ _ e => e)) HKK.out).mono ?_
              rintro e w15 ⟨rfl, f15⟩
              have hss := said_size HVV.out
              clear d0 d1 d2 d3 d4 d5 d6 d7 d8 d9 d10 d11 d12 k14
              have F15 : Fr No wo w15 := (fq.trans F14 (fun _ _ e => e)).trans f15 (fun _ _ e => e)
              have hB15 := isB_no hB14 f15
              go_wp2_with fail
              refine (Tryd.Builder_WriteString wo.heap.size wo.heap.size _ _ _ hB15 (by rw [HBL.out]; omega) F15.size).mono ?_
              rintro e w16 ⟨rfl, hb16, hbel⟩
              have F16 : Fr No wo w16 := F15.no_below hbel
              rw [Lib.strCells_eq, ← byteCells_append, ← ByteArray.toList_data_app] at hb16
              have HB16 := Lib.hid hb16
              clear hb16 hbel hB14 hB15 hB
              go_wp2_with fail
              go_roundw
              case rel =>
                refine ⟨j + 1, out ++ Scr.saidB x, by go_num, by omega, by rw [ByteArray.size_append]; omega, .inr HB16.out, ?_, F16⟩
                rw [HPF.out, HDR.out, Scr.printFrom, if_neg hbig]
              case measure => simp [intOf]; omega
          · obtain rfl : j = evs.length := by omega
            rw [List.drop_length] at HPF
            go_wp2_with fail
            refine (Tryd.Builder_Len wo.heap.size wo.heap.size (Lib.byteCells out.data.toList) _ hB).mono ?_
            rintro e w14 ⟨rfl, rfl⟩
            rw [HBL.out]
            by_cases hbig : 65536 < out.size
            · have qb : (65536 : Int) < (out.size : Int) := by omega
              go_wp2_with fail
              refine bodyPost_ret (results_tmp2 rfl _ _ _) rfl ⟨?_, FWq⟩
              have hp : Scr.print c evs = (⟨#[]⟩, 3) := by
                unfold Scr.print
                rw [if_neg (by rw [HANY.out]; simp), if_neg hlong, HPF.out, Scr.printFrom, if_pos hbig]
              rw [hp]
              rfl
            · have qb : ¬ (65536 : Int) < (out.size : Int) := by omega
              go_wp2_with fail
              refine (Tryd.Builder_String_any wo.heap.size wo.heap.size out.data.toList _ hB fq.size).mono ?_
              rintro e w15 ⟨rfl, hbel⟩
              have F15 : Fr No wo w15 := fq.no_below hbel
              go_wp2_with fail
              refine bodyPost_ret (results_tmp2 rfl _ _ _) rfl ⟨?_, F0.trans F15 (fun _ _ e => e)⟩
              have hp : Scr.print c evs = (out, 0) := by
                unfold Scr.print
                rw [if_neg (by rw [HANY.out]; simp), if_neg hlong, HPF.out, Scr.printFrom, if_neg hbig]
              rw [hp]
              rfl
end Go.Proofs.YtkcgijidgppeiaaDoor

