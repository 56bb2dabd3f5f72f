/- The first sentence of each statement: a text is printed and read. Walked. -/
import Derived.Test.YtkcgijidgppeiaaDoorP15
import Derived.Test.YtkcgijidgppeiaaDoorL4
namespace Go.Proofs.YtkcgijidgppeiaaDoor
open Go.RowKit

namespace Scr
def awC : Cfg := ⟨3, 1, 65, 128, 3⟩
def awE : Ev := { Ev.zero with kind := 2, node := 4 }

theorem row_size (ws : List ByteArray) (m : Nat) (h : ∀ x ∈ ws, x.size ≤ m) : (rowB ws).size ≤ ws.length * (m + 1) + 1 := by
  rw [size_eq', rowB_list, List.length_append]
  have : ∀ ws : List ByteArray, (∀ x ∈ ws, x.size ≤ m) → (glue 32 (ws.map (·.data.toList))).length ≤ ws.length * (m + 1) := by
    intro ws
    induction ws with
    | nil => intro _; simp [glue, Lib.join_nil]
    | cons x r ih =>
      intro h
      have h1 := ih (fun y hy => h y (by simp [hy]))
      have h2 := h x (by simp)
      rw [size_eq'] at h2
      cases r with
      | nil => rw [List.map_cons, List.map_nil, glue_one]; simp only [List.length_cons, List.length_nil]; omega
      | cons y t =>
        rw [List.map_cons, List.map_cons, glue_cons, List.length_append, List.length_cons]
        rw [List.map_cons] at h1
        simp only [List.length_cons] at h1 ⊢
        rw [Nat.add_mul (t.length + 1) 1 (m + 1)]
        omega
  have := this ws h
  simp only [List.length_cons, List.length_nil]
  omega

theorem itoa_small (v : Int) (h : In64 v) : (itoaB v).size ≤ 20 := by
  have := itoa_len20 v h.1 h.2
  rw [size_eq']; simp [itoaB]; omega

theorem awake_print : ∃ s, print awC [awE] = (s, 0) ∧ parse s = (awC, [awE], 0, 0) ∧ s.size ≤ 65536 := by
  have i3 : In64 3 := ⟨by decide, by decide⟩
  have i1 : In64 1 := ⟨by decide, by decide⟩
  have i65 : In64 65 := ⟨by decide, by decide⟩
  have i128 : In64 128 := ⟨by decide, by decide⟩
  have i4 : In64 4 := ⟨by decide, by decide⟩
  have i0 : In64 0 := ⟨by decide, by decide⟩
  have hc : awC.Ok := ⟨i3, i1, i65, i128, i3⟩
  have he : awE.Ok := ⟨i4, i0, i0, i0, i0, i0, i0⟩
  have h1 : (head awC).size ≤ 6 * 21 + 1 := by
    rw [head_row]
    refine row_size _ 20 (fun x hx => ?_)
    simp only [List.mem_cons, List.not_mem_nil, or_false] at hx
    rcases hx with rfl | rfl | rfl | rfl | rfl | rfl
    · decide
    · exact itoa_small _ i3
    · exact itoa_small _ i1
    · exact itoa_small _ i65
    · exact itoa_small _ i128
    · exact itoa_small _ i3
  have hw : saidWs awE = [nameB 2, itoaB 4, itoaB 0] := by simp [saidWs, awE, Ev.zero]
  have h2 : (saidB awE).size ≤ 3 * 21 + 1 := by
    unfold saidB
    rw [hw]
    refine row_size _ 20 (fun x hx => ?_)
    simp only [List.mem_cons, List.not_mem_nil, or_false] at hx
    rcases hx with rfl | rfl | rfl
    · decide
    · exact itoa_small _ i4
    · exact itoa_small _ i0
  obtain ⟨s, hs, _⟩ := printFrom_all [awE] (head awC) (by
    rw [← size_eq']
    simp only [List.map_cons, List.map_nil, List.flatten_cons, List.flatten_nil, List.append_nil]
    rw [← size_eq']; omega)
  have hp : print awC [awE] = (s, 0) := by
    unfold print
    rw [if_neg (by simp [awE, name, names]), if_neg (by simp), hs]
  refine ⟨s, hp, ?_⟩
  have := printed (c := awC) (evs := [awE]) hc (by intro x hx; simp at hx; subst hx; exact he) (by rw [hp])
  rw [hp] at this
  refine ⟨this, (printFrom_some _ _ _ hs).2⟩
theorem print_len {c : Cfg} {evs : List Ev} (h : (print c evs).2 = 0) : evs.length ≤ 2047 := by
  unfold print at h
  split at h
  · simp at h
  · split at h
    · simp at h
    · omega
theorem parse_err {text : ByteArray} {c : Cfg} {evs : List Ev} {n err : Int} (h : parse text = (c, evs, n, err)) (he : err ≠ 0) : evs = [] := by
  unfold parse at h
  split at h
  · simp at h; exact h.2.1
  · split at h
    · simp at h; exact h.2.1
    · split at h
      · simp at h; exact h.2.1
      · simp only [Prod.mk.injEq] at h
        exact absurd h.2.2.2.symm he
end Scr

set_option maxRecDepth 100000 in
set_option maxHeartbeats 800000 in
theorem awake_ (w : World) (hg : Glob w) : Calls Tryd.prog 6 #[] w fun e w' => e = .returned (.bool true) ∧ Fr No w w' := by
  obtain ⟨s, hpr, hpa, hsz⟩ := Scr.awake_print
  have HPR := Lib.hid hpr
  have HPA := Lib.hid hpa
  clear hpr hpa
  go_enter Tryd.func6, Tryd.ntmps6
  go_wp2_with fail
  have f1 : Fr No w ((w.alloc (.cells #[.int .i64 3, .int .i64 1, .int .i64 65, .int .i64 128, .int .i64 3] 24)).alloc (.cells #[.int .i64 2, .int .i64 4, .int .i64 0, .int .i64 0, .int .i64 0, .string ⟨#[]⟩, .string ⟨#[]⟩, .int .i64 0, .int .i64 0, .int .i64 0, .bool false, .slice none 0 0, .slice none 0 0] 50)) := ((Fr.refl w).alloc _).alloc _
  have k1 : ((w.alloc (.cells #[.int .i64 3, .int .i64 1, .int .i64 65, .int .i64 128, .int .i64 3] 24)).alloc (.cells #[.int .i64 2, .int .i64 4, .int .i64 0, .int .i64 0, .int .i64 0, .string ⟨#[]⟩, .string ⟨#[]⟩, .int .i64 0, .int .i64 0, .int .i64 0, .bool false, .slice none 0 0, .slice none 0 0] 50)).heap[w.heap.size + 1]? = some (.cells #[.int .i64 2, .int .i64 4, .int .i64 0, .int .i64 0, .int .i64 0, .string ⟨#[]⟩, .string ⟨#[]⟩, .int .i64 0, .int .i64 0, .int .i64 0, .bool false, .slice none 0 0, .slice none 0 0] 50 (0, 0)) := by
    have := heap_alloc_new (w.alloc (.cells #[.int .i64 3, .int .i64 1, .int .i64 65, .int .i64 128, .int .i64 3] 24)) (.cells #[.int .i64 2, .int .i64 4, .int .i64 0, .int .i64 0, .int .i64 0, .string ⟨#[]⟩, .string ⟨#[]⟩, .int .i64 0, .int .i64 0, .int .i64 0, .bool false, .slice none 0 0, .slice none 0 0] 50)
    simpa using this
  generalize ((w.alloc (.cells #[.int .i64 3, .int .i64 1, .int .i64 65, .int .i64 128, .int .i64 3] 24)).alloc (.cells #[.int .i64 2, .int .i64 4, .int .i64 0, .int .i64 0, .int .i64 0, .string ⟨#[]⟩, .string ⟨#[]⟩, .int .i64 0, .int .i64 0, .int .i64 0, .bool false, .slice none 0 0, .slice none 0 0] 50)) = w1 at *
  have hI : I64 3 ∧ I64 1 ∧ I64 65 ∧ I64 128 ∧ I64 3 := ⟨i64_lit _ (by decide), i64_lit _ (by decide), i64_lit _ (by decide), i64_lit _ (by decide), i64_lit _ (by decide)⟩
  have hE : EvsAt w1 (.slice (some ⟨w.heap.size + 1, 0, none⟩) 1 1) [Scr.awE] := by
    refine ⟨_, 1, rfl, Nat.le_refl _, .inr ⟨_, 0, rfl, lt_of_block k1, fun j x hj => ?_⟩⟩
    cases j with
    | succ j => simp at hj
    | zero =>
      simp at hj
      subst hj
      refine ⟨none, 0, 0, none, 0, 0, ⟨_, _, rfl, ⟨_, rfl, .inl ⟨rfl, _, _, rfl⟩, ?_⟩, .inl ⟨rfl, _, _, rfl⟩, ?_⟩, fun i u hi => ?_⟩
      · exact ⟨i64_lit _ (by decide), i64_lit _ (by decide), i64_lit _ (by decide), i64_lit _ (by decide), by decide, by decide, by decide⟩
      · exact ⟨i64_lit _ (by decide), i64_lit _ (by decide), i64_lit _ (by decide), i64_lit _ (by decide), by decide⟩
      · rw [cell_at k1]
        simpa [evCells, Scr.awE, Scr.Ev.zero, Scr.OpS.zero] using hi
  refine (print_ Scr.awC [Scr.awE] _ w1 (hg.no f1) hI hE (by simp)).mono ?_
  rintro e w2 ⟨rfl, f2⟩
  rw [HPR.out]
  have F2 : Fr No w w2 := f1.trans f2 (fun _ _ e => e)
  clear k1 hE f1 f2
  go_wp2_with fail
  refine (parse_ s _ (hg.no F2) (by omega)).mono ?_
  rintro e w3 ⟨c, evs, n, err, lv, hp, rfl, hc, hev, f3, hg3⟩
  rw [HPA.out] at hp
  simp only [Prod.mk.injEq] at hp
  obtain ⟨rfl, rfl, rfl, rfl⟩ := hp
  have F3 : Fr No w w3 := F2.trans f3 (fun _ _ e => e)
  obtain ⟨a, cap, rfl, hcap, hx⟩ := hev.at
  rcases hx with hx | ⟨b, off, rfl, hb, hx⟩
  · simp at hx
  obtain ⟨oa, ol, oc, va, vl, vc, hv, hr⟩ := hx 0 _ rfl
  have c0 : w3.cell? ⟨b, off, none⟩ = some (.int .i64 2) := by have := hr 0 _ rfl; simpa [Scr.awE] using this
  have c1 : w3.cell? ⟨b, off + 1, none⟩ = some (.int .i64 4) := by have := hr 1 _ rfl; simpa [Scr.awE] using this
  clear hr hx hv hev hc
  simp only [Scr.awC, List.length_cons, List.length_nil]
  go_wp2_with fail
  go_ret
  exact ⟨rfl, F3.alloc _⟩

set_option maxRecDepth 100000 in
set_option maxHeartbeats 800000 in
/-- the statement ScriptAgain, walked. -/
theorem again_ (text : ByteArray) (hts : text.size ≤ 9223372036854775807) (w : World) (hg : Glob w) : Calls Tryd.prog 5 #[.string text] w fun e w' => e = .returned (.bool true) ∧ Fr No w w' := by
  go_enter Tryd.func5, Tryd.ntmps5
  go_wp2_with fail
  refine (awake_ w hg).mono ?_
  rintro e w1 ⟨rfl, f1⟩
  by_cases hbig : 70000 < text.size
  · have q : (70000 : Int) < (text.size : Int) := by omega
    go_wp2_with fail
    go_ret
    exact ⟨rfl, f1⟩
  · have q : ¬ (70000 : Int) < (text.size : Int) := by omega
    go_wp2_with fail
    refine (parse_ text _ (hg.no f1) (by omega)).mono ?_
    rintro e w3 ⟨c, evs, n, err, lv, hp, rfl, hc, hev, f3, hg3⟩
    have F3 : Fr No w w3 := f1.trans f3 (fun _ _ e => e)
    have HP := Lib.hid hp
    clear hp
    by_cases he : err = 0
    · subst he
      have hpr := Scr.again HP.out
      have HPR := Lib.hid hpr
      clear hpr
      have hat := hev.at
      clear hev
      go_wp2_with fail
      have f4 : Fr No w3 (w3.alloc (.cells #[.int .i64 c.servers, .int .i64 c.clients, .int .i64 c.sectors, .int .i64 c.journal, .int .i64 c.tries] 24)) := (Fr.refl w3).alloc _
      refine (print_ c evs lv _ (hg3.no f4) hc (hat.no f4) (by have := Scr.print_len (c := c) (evs := evs) (by rw [HPR.out]); omega)).mono ?_
      rintro e w5 ⟨rfl, f5⟩
      rw [HPR.out]
      clear hat
      go_wp2_with fail
      go_ret
      exact ⟨rfl, F3.trans (f4.trans f5 (fun _ _ e => e)) (fun _ _ e => e)⟩
    · have he1 : (err != 0) = true := by simpa using he
      have hnil : evs = [] := by
        have := Scr.parse_err HP.out he
        exact this
      subst hnil
      obtain ⟨a, cap, rfl, _, _⟩ := hev.at
      go_wp2_with fail
      go_ret
      exact ⟨rfl, F3.alloc _⟩
end Go.Proofs.YtkcgijidgppeiaaDoor
