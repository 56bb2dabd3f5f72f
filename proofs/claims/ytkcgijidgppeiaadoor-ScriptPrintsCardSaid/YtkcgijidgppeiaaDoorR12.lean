/- A row that a conversion of a string has made (its mark lies behind its cells), owned and appended to. -/
import Derived.Test.YtkcgijidgppeiaaDoorP14
import Derived.Test.YtkcgijidgppeiaaDoorL2
import Derived.Lib.FrozenHead
namespace Go.Proofs.YtkcgijidgppeiaaDoor
open Go.RowKit

/-- the frozen stretch lies behind the row. -/
def Behind (fz : Nat × Nat) (size : Nat) : Prop := fz.2 ≤ fz.1 ∨ size ≤ fz.1
theorem frozen_behind {w : World} {g o : Nat} {cur : Array Value} {t : TypeId} {fz : Nat × Nat} (hg : w.heap[g]? = some (.cells cur t fz)) (hb : Behind fz cur.size) (ho : o < cur.size) : w.frozen? ⟨g, o, none⟩ = false := by
  obtain ⟨lo, hi⟩ := fz
  simp only [World.frozen?, hg, Bool.and_eq_false_iff, decide_eq_false_iff_not]
  unfold Behind at hb
  simp only at hb
  omega
/-- the slice value owns the bytes, its row's frozen stretch behind it. -/
def OwnT (w : World) (base : Nat) (v : Value) (xs : List Value) : Prop :=
  ∃ g cap cur fz, v = .slice (some ⟨g, 0, none⟩) xs.length cap ∧ base ≤ g ∧ w.heap[g]? = some (.cells cur 5 fz) ∧ Behind fz cur.size ∧ xs.length ≤ cap ∧ cap ≤ maxLen ∧ cur.size = cap ∧ cur.toList.take xs.length = xs
theorem OwnT.of_own {w : World} {base : Nat} {g n cap : Nat} {xs : List Value} (h : w.ownsRow base 5 1 (.slice (some ⟨g, 0, none⟩) n cap) n xs) : OwnT w base (.slice (some ⟨g, 0, none⟩) n cap) xs := by
  obtain ⟨hl, h | ⟨g', cap', cur, hv, hb, hg, h1, h2, h3, h4⟩⟩ := h
  · cases h.1
  · injection hv with ha _ hcap
    injection ha with ha
    injection ha with hgg _ _
    subst hgg hcap
    have hn : n = xs.length := by simpa using hl.symm
    subst hn
    exact ⟨g, cap, cur, (0, 0), rfl, hb, hg, .inl (Nat.le_refl _), h1, h2, by simpa using h3, by simpa using h4⟩
theorem OwnT.no {w w' : World} {base : Nat} {v : Value} {xs : List Value} (h : OwnT w base v xs) (f : Fr No w w') : OwnT w' base v xs := by
  obtain ⟨g, cap, cur, fz, hv, hb, hg, rest⟩ := h
  exact ⟨g, cap, cur, fz, hv, hb, f.block_of hg id, rest⟩
theorem own_conv (w : World) (s : ByteArray) (hs : s.size ≤ 1000000000) : OwnT (Lib.bytesWorld w 5 s) w.heap.size (.slice (some ⟨w.heap.size, 0, none⟩) s.size (grownCap w s.size 0 5)) (Lib.byteCells s.data.toList) := by
  have hl : (Lib.byteCells s.data.toList).length = s.size := by simp [Lib.byteCells]
  have hge := grownCap_ge w s.size 0 5
  have hsz : (Lib.bytesCells w 5 s).size = grownCap w s.size 0 5 := by
    have : s.data.size = s.size := rfl
    simp [Lib.bytesCells]
    omega
  refine ⟨w.heap.size, grownCap w s.size 0 5, Lib.bytesCells w 5 s, _, by rw [hl], Nat.le_refl _, Lib.bytesWorld_at_new w 5 s, .inr (Nat.le_refl _), by rw [hl]; exact hge, grownCap_le_maxLen w s.size 0 5 (by simp only [maxLen]; omega), hsz, ?_⟩
  rw [hl]
  have e1 : (Lib.bytesCells w 5 s).toList = Lib.byteCells s.data.toList ++ List.replicate (grownCap w s.size 0 5 - s.size) (.int .u8 0) := by
    simp [Lib.bytesCells, Lib.byteCells]
  rw [e1, ← hl]
  exact List.take_left

theorem run_storeCells_behind (P : Program) (g o : Nat) (t : TypeId) (fz : Nat × Nat) : ∀ (vs : List Value) (i : Nat) (cur : Array Value) (w : World), w.heap[g]? = some (.cells cur t fz) → Behind fz cur.size → o + i + vs.length ≤ cur.size → (∀ v ∈ vs, v.oneCell' = true) →
    (storeCells ⟨g, o, none⟩ vs i).run P w = .ok () (w.setRow g (cur.toList.take (o + i) ++ vs ++ cur.toList.drop (o + i + vs.length)).toArray)
  | [], i, cur, w, hg, _, _, _ => by
    simp only [storeCells, List.append_nil, List.length_nil, Nat.add_zero, List.take_append_drop, Array.toArray_toList]
    rw [setRow_self w g cur t fz hg]
    rfl
  | v :: rest, i, cur, w, hg, hfz, hl, h1 => by
    have hi : o + i < cur.size := by simp at hl; omega
    have hadd : (⟨g, o, none⟩ : Addr).add i = ⟨g, o + i, none⟩ := by unfold Addr.add; split <;> simp_all
    have hcell : w.cell? ⟨g, o + i, none⟩ = some cur[o + i] := by simp [World.cell?, hg, hi]
    have hfro : w.frozen? ⟨g, o + i, none⟩ = false := frozen_behind hg hfz hi
    have hst : (store ((⟨g, o, none⟩ : Addr).add i) v).run P w = .ok () (w.setRow g (cur.setIfInBounds (o + i) v)) := by
      rw [hadd, run_store P w _ v _ (h1 v (by simp)), hcell]
      simp [hfro, setCell_eq_setRow w g (o + i) cur t fz v hg]
    have ih := run_storeCells_behind P g o t fz rest (i + 1) (cur.setIfInBounds (o + i) v) (w.setRow g (cur.setIfInBounds (o + i) v)) (setRow_heap w g cur _ t _ hg) (by simpa using hfz) (by simp at hl ⊢; omega) (fun x hx => h1 x (by simp [hx]))
    simp only [storeCells, Sem.run_bind, hst, Result.andThen_ok, ih, setRow_setRow]
    congr 3
    have e := list_seg_step cur.toList (o + i) v rest (by simp at hl ⊢; omega)
    simpa [Array.toList_setIfInBounds, Nat.add_assoc] using e

theorem run_append_ownT {P : Program} (w : World) (base : Nat) (t u ty : TypeId) (i : TypeInfo) (ht : P.underlying t = some (.slice 5)) (hu : P.underlying u = some .string) (hi : P.info? 5 = some i) (hz : i.zero = some (.int .u8 0))
    (hsize : i.size = 1) (hby : i.bytes = 1) (v : Value) (xs : List Value) (hown : OwnT w base v xs) (s : ByteArray) (hle : xs.length + s.size ≤ 140737488355328) (hbase : base ≤ w.heap.size) :
    ∃ v' w', (Builtin.append_ #[t, u] ty #[v, .string s]).run P w = .ok v' w' ∧ OwnT w' base v' (xs ++ Lib.byteCells s.data.toList) ∧ w.grownBy w' v.ownBlock := by
  have hsc : Lib.strCells s = Lib.byteCells s.data.toList := Lib.strCells_eq s
  rw [← hsc]
  obtain ⟨g, cap, cur, fz, rfl, hbg, hg, hfz, hnc, hcm, hcs, htake⟩ := hown
  have hlen : (xs ++ Lib.strCells s).length = xs.length + s.size := by rw [List.length_append, Lib.strCells_length]
  by_cases hroom : xs.length + s.size ≤ cap
  · have hf := Lib.run_firstCells_string (P := P) w 1 s
    have hst := run_storeCells_behind P g xs.length 5 fz (Lib.strCells s) 0 cur w hg hfz (by simp [Lib.strCells_length]; omega) (Lib.strCells_oneCell s)
    simp only [Nat.add_zero, Lib.strCells_length] at hst
    refine ⟨.slice (some ⟨g, 0, none⟩) (xs.length + s.size) cap, w.setRow g (cur.toList.take xs.length ++ Lib.strCells s ++ cur.toList.drop (xs.length + s.size)).toArray, ?_, ⟨g, cap, _, fz, by rw [hlen], hbg, setRow_heap w g cur _ 5 _ hg, ?_, by rw [hlen]; exact hroom, hcm, ?_, ?_⟩, ⟨rfl, rfl, rfl, by simp, fun k _ hk => setRow_other w g k _ (fun e => hk (by simp [Value.ownBlock, e]))⟩⟩
    · simp [Builtin.append_, run_underlying ht, run_underlying hu, sizeOf, typeInfo, hi, hsize, Builtin.lenOf, hroom, hf, Addr.add_lit, hst]
    · have e1 : (cur.toList.take xs.length ++ Lib.strCells s ++ cur.toList.drop (xs.length + s.size)).toArray.size = cur.size := by
        simp only [List.size_toArray, List.length_append, List.length_take, List.length_drop, Array.length_toList, Lib.strCells_length]
        omega
      rw [e1]
      exact hfz
    · simp only [List.size_toArray, List.length_append, List.length_take, List.length_drop, Array.length_toList, Lib.strCells_length]
      omega
    · rw [htake]
      exact List.take_left
  · have holds : ∀ j u, xs[j]? = some u → w.cell? ((⟨g, 0, none⟩ : Addr).add j) = some u := by
      intro j u hu
      have hadd : (⟨g, 0, none⟩ : Addr).add j = ⟨g, j, none⟩ := by unfold Addr.add; split <;> simp_all
      rw [hadd, cell_of_row w g j cur 5 fz hg]
      rw [← htake, List.getElem?_take] at hu
      split at hu
      · simpa using hu
      · cases hu
    have hr := Lib.run_append_grow_string (P := P) w t u ty 5 i (.int .u8 0) ht hu hi hz ⟨g, 0, none⟩ xs.length cap xs (by rw [hsize]; simp) holds s (by omega) (by omega) (by rw [hby]; exact growslice_fits (by omega) (by omega))
    have hge := grownCap_ge w (xs.length + s.size) cap 5
    have hcm2 : grownCap w (xs.length + s.size) cap 5 ≤ maxLen := grownCap_le_maxLen w (xs.length + s.size) cap 5 (by simp only [maxLen]; omega)
    have hz1 : (Value.int IntKind.u8 0).cells.size = 1 := rfl
    refine ⟨_, _, hr, ⟨w.heap.size, _, _, (0, 0), by rw [hlen], hbase, heap_alloc_new w.drew _, .inl (Nat.le_refl _), by rw [hlen]; exact hge, hcm2, ?_, ?_⟩, ⟨rfl, rfl, rfl, by simp, fun k hk _ => heap_alloc_old w.drew _ hk⟩⟩
    · simp only [Array.size_append, List.size_toArray, size_zeroCells, hz1, Lib.strCells_length]
      omega
    · simp only [Array.toList_append, List.append_assoc]
      rw [← List.append_assoc]
      exact List.take_left

theorem wpList_append_ownT {P : Program} (w : World) {ops : Array Oper} {rest : List Oper} {o : Oper} {a : Act} {Q : Exit → Act → World → Prop} (hgd : o.guard = none) (sl x : Operand) (t u : TypeId)
    (ho : o.op = .call { callee := .builtin .append, args := #[sl, x], argTypes := #[t, u] })
    (base : Nat) (i : TypeInfo) (ht : P.underlying t = some (.slice 5)) (hu : P.underlying u = some .string) (hi : P.info? 5 = some i) (hz : i.zero = some (.int .u8 0))
    (hsize : i.size = 1) (hby : i.bytes = 1)
    (v : Value) (xs : List Value) (hs : a.eval sl = v) (hown : OwnT w base v xs) (s : ByteArray) (hx : a.eval x = .string s)
    (hbytes : xs.length + s.size ≤ 140737488355328) (hbase : base ≤ w.heap.size)
    (h : ∀ v' w', OwnT w' base v' (xs ++ Lib.byteCells s.data.toList) → w.grownBy w' v.ownBlock → wpList P ops Q rest (a.put o.dst v') w') : wpList P ops Q (o :: rest) a w := by
  refine wpList_plain hgd fun K hK => ?_
  obtain ⟨v', w', hr, h2, h3⟩ := run_append_ownT (P := P) w base t u o.type i ht hu hi hz hsize hby v xs hown s hbytes hbase
  unfold Oper.wp execOp
  simp only [ho, resolve, invoke, builtin, Sem.run_bind, Sem.run_pure, Result.andThen_ok, List.map_toArray, List.map_cons, List.map_nil, hs, hx, hr]
  exact hK _ _ (h v' w' h2 h3)

/-- what lies at or above the call's base may change. -/
theorem fr_grown {wo w w' : World} {v : Value} {xs : List Value} (f : Fr No wo w) (h : OwnT w wo.heap.size v xs) (hg : w.grownBy w' v.ownBlock) : Fr No wo w' := by
  obtain ⟨g, cap, cur, fz, rfl, hb, _⟩ := h
  refine ⟨hg.os.trans f.os, hg.tape.trans f.tape, hg.output.trans f.output, Nat.le_trans f.size hg.size, fun k hk hn => ?_⟩
  rw [hg.block k (Nat.lt_of_lt_of_le hk f.size) ?_]
  · exact f.block k hk hn
  · simp only [Value.ownBlock, ne_eq, Option.some.injEq]
    omega
theorem byteCells_len (s : ByteArray) : (Lib.byteCells s.data.toList).length = s.size := by simp [Lib.byteCells]
theorem OwnT.sl {w : World} {base : Nat} {v : Value} {s : ByteArray} (h : OwnT w base v (Lib.byteCells s.data.toList)) : ∃ g cap, v = .slice (some ⟨g, 0, none⟩) s.size cap := by
  obtain ⟨g, cap, _, _, rfl, _⟩ := h
  exact ⟨g, cap, by rw [byteCells_len]⟩
theorem OwnT.at_ {w : World} {base : Nat} {v : Value} {s : ByteArray} (h : OwnT w base v (Lib.byteCells s.data.toList)) (_hb : 8 ≤ base) : SlAt w v s.data.toList := by
  obtain ⟨g, cap, cur, fz, rfl, hg, hk, _, hc, _, hcs, ht⟩ := h
  have hl := byteCells_len s
  have e1 : s.data.toList.length = s.size := by simp
  refine .inr ⟨g, 0, cap, by rw [hl, e1], by omega, lt_of_block hk, trivial, fun j x hj => ?_⟩
  have hjl : j < s.data.toList.length := by
    rcases Nat.lt_or_ge j s.data.toList.length with h | h
    · exact h
    · rw [List.getElem?_eq_none h] at hj; cases hj
  have hx : (Lib.byteCells s.data.toList)[j]? = some (.int .u8 x.toNat) := by simp [Lib.byteCells, List.getElem?_map, hj]
  rw [Nat.zero_add, cell_of_row w g j cur 5 fz hk]
  rw [← ht, List.getElem?_take] at hx
  split at hx
  · simpa using hx
  · cases hx

theorem said1 (x : Scr.Ev) (h : x.kind = 1) : Scr.nameB x.kind ++ ⟨#[32]⟩ ++ Scr.itoaB x.node ++ ⟨#[32]⟩ ++ Scr.itoaB x.op.kind ++ ⟨#[32]⟩ ++ Scr.hexB x.op.path ++ ⟨#[32]⟩ ++ Scr.hexB x.op.to ++ ⟨#[32]⟩ ++ Scr.itoaB x.op.handle ++ ⟨#[32]⟩ ++ Scr.itoaB x.op.pos ++ ⟨#[32]⟩ ++ Scr.itoaB x.op.n ++ ⟨#[32]⟩ ++ Scr.bitB x.op.writes ++ ⟨#[32]⟩ ++ Scr.hexB x.op.b ++ ⟨#[10]⟩ = Scr.saidB x := by
  apply Scr.ba_ext
  rw [Scr.saidB, Scr.rowB_list]
  simp [Scr.saidWs, h, Scr.glue_cons, Scr.glue_one]
theorem said2 (x : Scr.Ev) (h : x.kind = 2 ∨ x.kind = 3 ∨ x.kind = 4) : Scr.nameB x.kind ++ ⟨#[32]⟩ ++ Scr.itoaB x.node ++ ⟨#[32]⟩ ++ Scr.itoaB x.fate ++ ⟨#[10]⟩ = Scr.saidB x := by
  apply Scr.ba_ext
  rw [Scr.saidB, Scr.rowB_list]
  have h1 : ¬ x.kind = 1 := by omega
  have h5 : ¬ x.kind = 5 := by omega
  simp [Scr.saidWs, h, h1, h5, Scr.glue_cons, Scr.glue_one]
theorem said5 (x : Scr.Ev) (h : x.kind = 5) : Scr.nameB x.kind ++ ⟨#[32]⟩ ++ Scr.itoaB x.n ++ ⟨#[10]⟩ = Scr.saidB x := by
  apply Scr.ba_ext
  rw [Scr.saidB, Scr.rowB_list]
  simp [Scr.saidWs, h, Scr.glue_cons, Scr.glue_one]
theorem said6 (x : Scr.Ev) (h : x.kind = 6) : Scr.nameB x.kind ++ ⟨#[32]⟩ ++ Scr.itoaB x.node ++ ⟨#[32]⟩ ++ Scr.hexB x.b ++ ⟨#[10]⟩ = Scr.saidB x := by
  apply Scr.ba_ext
  rw [Scr.saidB, Scr.rowB_list]
  simp [Scr.saidWs, h, Scr.glue_cons, Scr.glue_one]
theorem said10 (x : Scr.Ev) (h : x.kind = 10) : Scr.nameB x.kind ++ ⟨#[32]⟩ ++ Scr.itoaB x.node ++ ⟨#[32]⟩ ++ Scr.itoaB x.n ++ ⟨#[10]⟩ = Scr.saidB x := by
  apply Scr.ba_ext
  rw [Scr.saidB, Scr.rowB_list]
  simp [Scr.saidWs, h, Scr.glue_cons, Scr.glue_one]
theorem said7 (x : Scr.Ev) (h : x.kind = 7 ∨ x.kind = 8 ∨ x.kind = 9) : Scr.nameB x.kind ++ ⟨#[32]⟩ ++ Scr.itoaB x.node ++ ⟨#[10]⟩ = Scr.saidB x := by
  apply Scr.ba_ext
  rw [Scr.saidB, Scr.rowB_list]
  have h1 : ¬ x.kind = 1 := by omega
  have h2 : ¬ x.kind = 2 := by omega
  have h3 : ¬ x.kind = 3 := by omega
  have h4 : ¬ x.kind = 4 := by omega
  have h5 : ¬ x.kind = 5 := by omega
  have h6 : ¬ x.kind = 6 := by omega
  have h10 : ¬ x.kind = 10 := by omega
  simp [Scr.saidWs, h1, h2, h3, h4, h5, h6, h10, Scr.glue_cons, Scr.glue_one]
end Go.Proofs.YtkcgijidgppeiaaDoor
