/- An event's line, printed: the walk. -/
import Derived.Test.YtkcgijidgppeiaaDoorP12
import Derived.Lib.ItoaLen
namespace Go.Proofs.YtkcgijidgppeiaaDoor
open Go.RowKit

/-- the thirteen cells of an event. -/
def evCells (x : Scr.Ev) (ob vb : Value) : Array Value := #[.int .i64 x.kind, .int .i64 x.node, .int .i64 x.fate, .int .i64 x.n, .int .i64 x.op.kind, .string ⟨x.op.path.toArray⟩, .string ⟨x.op.to.toArray⟩, .int .i64 x.op.handle, .int .i64 x.op.pos, .int .i64 x.op.n, .bool x.op.writes, ob, vb]

theorem said_world (w : World) (hg : Glob w) (cs : Array Value) (s : ByteArray) (w2 : World)
    (e2 : w2 = ((w.alloc (.cells cs 50)).alloc (.cells #[.string s] 9)).alloc (.cells #[.slice (some ⟨w.heap.size + 1, 0, none⟩) 1 1] 51)) :
    Sd w w2 w.heap.size (w.heap.size + 1 + 1) (w.heap.size + 1) [s] cs := by
  have f : Fr No w w2 := e2 ▸ (((Fr.refl (S := No) w).alloc _).alloc _).alloc _
  refine ⟨hg.no f, ?_, ⟨.slice (some ⟨w.heap.size + 1, 0, none⟩) 1 1, ?_, ⟨rfl, .inr ⟨w.heap.size + 1, 1, #[.string s], rfl, Nat.le_refl _, ?_, Nat.le_refl _, by unfold maxLen; omega, rfl, rfl⟩⟩, by rw [e2]; simp⟩, f, by have := hg.size; omega⟩
  · rw [e2]
    exact ((((Fr.refl (S := No) (w.alloc (.cells cs 50))).alloc _).alloc _).block_of (heap_alloc_new w _) id)
  · rw [e2]
    have := heap_alloc_new ((w.alloc (.cells cs 50)).alloc (.cells #[.string s] 9)) (.cells #[.slice (some ⟨w.heap.size + 1, 0, none⟩) 1 1] 51)
    simpa using this
  · rw [e2]
    refine (((Fr.refl (S := No) ((w.alloc (.cells cs 50)).alloc (.cells #[.string s] 9))).alloc _).block_of ?_ id)
    have := heap_alloc_new (w.alloc (.cells cs 50)) (.cells #[.string s] 9)
    simpa using this

theorem Sd.c {w0 w : World} {be bw base : Nat} {xs : List ByteArray} {cs : Array Value} (h : Sd w0 w be bw base xs cs) (j : Nat) : w.cell? ⟨be, j, none⟩ = cs[j]? := cell_at h.ke j

theorem join_len : ∀ xs : List ByteArray, (∀ x ∈ xs, x.size ≤ 4194304) → (Lib.join (xs.map (·.data.toList)) [32]).length ≤ xs.length * 4194305 := by
  intro xs h
  cases xs with
  | nil => simp [Lib.join_nil]
  | cons x r =>
    rw [List.map_cons, Lib.join_cons, List.length_append]
    have h1 : x.data.toList.length ≤ 4194304 := by have := h x (by simp); rw [← size_list]; exact this
    have h2 : ∀ r : List ByteArray, (∀ x ∈ r, x.size ≤ 4194304) → (Lib.joinTail [32] (r.map (·.data.toList))).length ≤ r.length * 4194305 := by
      intro r
      induction r with
      | nil => intro _; simp [Lib.joinTail]
      | cons y r ih =>
        intro hr
        have h3 := ih (fun z hz => hr z (by simp [hz]))
        have h4 : y.data.toList.length ≤ 4194304 := by have := hr y (by simp); rw [← size_list]; exact this
        simp [Lib.joinTail] at h3 ⊢
        simp at h4
        omega
    have h5 := h2 r (fun z hz => h z (by simp [hz]))
    simp only [List.length_cons]
    omega

theorem inAt_new (w : World) (s : ByteArray) : InAt (w.alloc (.cells #[.string s] 9)) (.slice (some ⟨w.heap.size, 0, none⟩) 1 1) ([s].map .string) :=
  ⟨_, _, rfl, Nat.le_refl _, .inr ⟨w.heap.size, 0, rfl, by simp, fun j x hj => by
    rw [Nat.zero_add, cell_at (heap_alloc_new w _)]
    simpa using hj⟩⟩
theorem name_size (k : Int) : (⟨(Scr.name k).toArray⟩ : ByteArray).size ≤ 4194304 := by
  by_cases h : 1 ≤ k ∧ k ≤ 10
  · have : k = 1 ∨ k = 2 ∨ k = 3 ∨ k = 4 ∨ k = 5 ∨ k = 6 ∨ k = 7 ∨ k = 8 ∨ k = 9 ∨ k = 10 := by omega
    rcases this with rfl | rfl | rfl | rfl | rfl | rfl | rfl | rfl | rfl | rfl <;> decide
  · unfold Scr.name
    rw [if_neg h]
    decide
theorem itoa_size (n : Int) (h : I64 n) : (Scr.itoaB n).size ≤ 4194304 := by
  have := Lib.itoa_length_le n h.1 h.2
  rw [size_list]
  unfold Scr.itoaB
  simp
  omega
theorem hex_size (b : List UInt8) (h : b.length ≤ 1048576) : (Scr.hexB b).size ≤ 4194304 := by
  unfold Scr.hexB
  split
  · decide
  · rw [size_list]
    simp [hexL_length]
    omega

/-- the end: the words made a line. -/
theorem sd_row {w0 w : World} {be bw base : Nat} {xs : List ByteArray} {cs : Array Value} (h : Sd w0 w be bw base xs cs) (hx : xs.length ≤ 100) (hs : ∀ x ∈ xs, x.size ≤ 4194304) :
    ∃ a l c, w.cell? ⟨bw, 0, none⟩ = some (.slice a l c) ∧ Calls Tryd.prog 28 #[.slice a l c] w fun e w' => e = .returned (.string (Scr.rowB xs)) ∧ Fr No w0 w' := by
  obtain ⟨lv, hk, ho, hb⟩ := h.wd
  obtain ⟨a, l, c, rfl⟩ : ∃ a l c, lv = .slice a l c := by
    rcases ho.2 with ⟨h, _⟩ | ⟨g, cp, cur, h, _⟩
    · exact ⟨_, _, _, h⟩
    · exact ⟨_, _, _, h⟩
  refine ⟨a, l, c, by rw [cell_at hk]; rfl, ?_⟩
  have hl := join_len xs hs
  refine (row_ xs _ w (InAt.of_own (base := base) (e := 9) (by rw [List.length_map]; exact ho)) (by omega) (by omega)).mono ?_
  rintro e w' ⟨rfl, f⟩
  exact ⟨rfl, h.fr.trans f (fun _ _ e => e)⟩

set_option maxRecDepth 100000 in
set_option maxHeartbeats 800000 in
theorem said_most (x : Scr.Ev) (oa va : Option Addr) (ol oc vl vc : Nat) (w : World) (hg : Glob w) (hv : EvV w x (evCells x (.slice oa ol oc) (.slice va vl vc)).toList) (hk : 2 ≤ x.kind ∧ x.kind ≤ 10) :
    Calls Tryd.prog 31 #[.agg (evCells x (.slice oa ol oc) (.slice va vl vc))] w fun e w' => e = .returned (.string (Scr.saidB x)) ∧ Fr No w w' := by
  have hmf : ∀ (fn : Fn) (first cap : Array Value) (w : World), (Instr.makeFunc fn first cap).run Tryd.prog w = .ok (.func fn first cap) w := fun _ _ _ _ => rfl
  have HW := fun s => said_world w hg (evCells x (.slice oa ol oc) (.slice va vl vc)) s _ rfl
  have HV := Lib.hid hv
  have HK := Lib.hid hk
  clear hv hk
  obtain ⟨kind, node, fate, n, op, b⟩ := x
  unfold evCells at *
  simp only at *
  go_enter Tryd.func31, Tryd.ntmps31
  go_upto_region 3 with fail
  refine (name_ kind _ (by have := HK.out; omega) (by have := HK.out; omega)).mono ?_
  rintro e w1 ⟨rfl, rfl⟩
  go_upto_region 3 with fail
  have S := HW ⟨(Scr.name kind).toArray⟩
  clear HW hmf
  generalize (((w.alloc (.cells #[.int .i64 kind, .int .i64 node, .int .i64 fate, .int .i64 n, .int .i64 op.kind, .string ⟨op.path.toArray⟩, .string ⟨op.to.toArray⟩, .int .i64 op.handle, .int .i64 op.pos, .int .i64 op.n, .bool op.writes, .slice oa ol oc, .slice va vl vc] 50)).alloc (.cells #[.string ⟨(Scr.name kind).toArray⟩] 9)).alloc (.cells #[.slice (some ⟨w.heap.size + 1, 0, none⟩) 1 1] 51)) = w2 at S ⊢
  have hI : I64 node ∧ I64 fate ∧ I64 n := by
    obtain ⟨_, _, _, _, _, _, h1, h2, h3, _⟩ := HV.out
    exact ⟨h1, h2, h3⟩
  have hvb : SlAt w (.slice va vl vc) b ∧ b.length ≤ 1048576 := by
    obtain ⟨ovs, vb, he, ⟨ob, rfl, _⟩, h2, _, _, _, _, h3⟩ := HV.out
    simp at he
    obtain ⟨_, rfl⟩ := he
    exact ⟨h2, h3⟩
  obtain ⟨hvb, hbl⟩ := hvb
  have hkk : kind = 2 ∨ kind = 3 ∨ kind = 4 ∨ kind = 5 ∨ kind = 6 ∨ kind = 7 ∨ kind = 8 ∨ kind = 9 ∨ kind = 10 := by have := HK.out; omega
  rcases hkk with rfl | rfl | rfl | rfl | rfl | rfl | rfl | rfl | rfl
  · -- step
    have c0 : w2.cell? ⟨w.heap.size, 0, none⟩ = some (.int .i64 2) := S.c 0
    have c1 : w2.cell? ⟨w.heap.size, 1, none⟩ = some (.int .i64 node) := S.c 1
    have c2 : w2.cell? ⟨w.heap.size, 2, none⟩ = some (.int .i64 fate) := S.c 2
    have c3 : w2.cell? ⟨w.heap.size, 3, none⟩ = some (.int .i64 n) := S.c 3
    go_wp2_with fail
    refine (sd_ints S [node] (by simp; exact hI.1) (by simp) _ rfl _ rfl _ rfl).mono ?_
    rintro e w3 ⟨v3, rfl, S3, I3, f3⟩
    go_wp2_with fail
    refine (sd_add S3 [Scr.itoaB node] v3 I3 (by simp) (by simp) (by simp)).mono ?_
    rintro e w4 ⟨rfl, S4, g4⟩
    clear c0 c1 c2 c3
    have c0 : w4.cell? ⟨w.heap.size, 0, none⟩ = some (.int .i64 2) := S4.c 0
    have c1 : w4.cell? ⟨w.heap.size, 1, none⟩ = some (.int .i64 node) := S4.c 1
    have c2 : w4.cell? ⟨w.heap.size, 2, none⟩ = some (.int .i64 fate) := S4.c 2
    have c3 : w4.cell? ⟨w.heap.size, 3, none⟩ = some (.int .i64 n) := S4.c 3
    go_wp2_with fail
    refine (sd_ints S4 [fate] (by simp; exact hI.2.1) (by simp) _ rfl _ rfl _ rfl).mono ?_
    rintro e w5 ⟨v5, rfl, S5, I5, f5⟩
    go_wp2_with fail
    refine (sd_add S5 [Scr.itoaB fate] v5 I5 (by simp) (by simp) (by simp)).mono ?_
    rintro e w6 ⟨rfl, S6, g6⟩
    clear c0 c1 c2 c3
    have c0 : w6.cell? ⟨w.heap.size, 0, none⟩ = some (.int .i64 2) := S6.c 0
    have c1 : w6.cell? ⟨w.heap.size, 1, none⟩ = some (.int .i64 node) := S6.c 1
    have c2 : w6.cell? ⟨w.heap.size, 2, none⟩ = some (.int .i64 fate) := S6.c 2
    have c3 : w6.cell? ⟨w.heap.size, 3, none⟩ = some (.int .i64 n) := S6.c 3
    obtain ⟨ra, rl, rc, cw, hrow⟩ := sd_row S6 (by simp) (by
      intro y hy
      simp only [List.mem_append, List.mem_cons, List.not_mem_nil, or_false] at hy
      rcases hy with (hy | hy) | hy
      all_goals (rw [hy]; first | exact name_size _ | exact hex_size _ hbl | exact itoa_size _ hI.1 | exact itoa_size _ hI.2.1 | exact itoa_size _ hI.2.2))
    go_wp2_with fail
    refine hrow.mono ?_
    rintro e w7 ⟨rfl, f7⟩
    go_wp2_with fail
    go_ret
    exact ⟨rfl, f7⟩
  · -- clean
    have c0 : w2.cell? ⟨w.heap.size, 0, none⟩ = some (.int .i64 3) := S.c 0
    have c1 : w2.cell? ⟨w.heap.size, 1, none⟩ = some (.int .i64 node) := S.c 1
    have c2 : w2.cell? ⟨w.heap.size, 2, none⟩ = some (.int .i64 fate) := S.c 2
    have c3 : w2.cell? ⟨w.heap.size, 3, none⟩ = some (.int .i64 n) := S.c 3
    go_wp2_with fail
    refine (sd_ints S [node] (by simp; exact hI.1) (by simp) _ rfl _ rfl _ rfl).mono ?_
    rintro e w3 ⟨v3, rfl, S3, I3, f3⟩
    go_wp2_with fail
    refine (sd_add S3 [Scr.itoaB node] v3 I3 (by simp) (by simp) (by simp)).mono ?_
    rintro e w4 ⟨rfl, S4, g4⟩
    clear c0 c1 c2 c3
    have c0 : w4.cell? ⟨w.heap.size, 0, none⟩ = some (.int .i64 3) := S4.c 0
    have c1 : w4.cell? ⟨w.heap.size, 1, none⟩ = some (.int .i64 node) := S4.c 1
    have c2 : w4.cell? ⟨w.heap.size, 2, none⟩ = some (.int .i64 fate) := S4.c 2
    have c3 : w4.cell? ⟨w.heap.size, 3, none⟩ = some (.int .i64 n) := S4.c 3
    go_wp2_with fail
    refine (sd_ints S4 [fate] (by simp; exact hI.2.1) (by simp) _ rfl _ rfl _ rfl).mono ?_
    rintro e w5 ⟨v5, rfl, S5, I5, f5⟩
    go_wp2_with fail
    refine (sd_add S5 [Scr.itoaB fate] v5 I5 (by simp) (by simp) (by simp)).mono ?_
    rintro e w6 ⟨rfl, S6, g6⟩
    clear c0 c1 c2 c3
    have c0 : w6.cell? ⟨w.heap.size, 0, none⟩ = some (.int .i64 3) := S6.c 0
    have c1 : w6.cell? ⟨w.heap.size, 1, none⟩ = some (.int .i64 node) := S6.c 1
    have c2 : w6.cell? ⟨w.heap.size, 2, none⟩ = some (.int .i64 fate) := S6.c 2
    have c3 : w6.cell? ⟨w.heap.size, 3, none⟩ = some (.int .i64 n) := S6.c 3
    obtain ⟨ra, rl, rc, cw, hrow⟩ := sd_row S6 (by simp) (by
      intro y hy
      simp only [List.mem_append, List.mem_cons, List.not_mem_nil, or_false] at hy
      rcases hy with (hy | hy) | hy
      all_goals (rw [hy]; first | exact name_size _ | exact hex_size _ hbl | exact itoa_size _ hI.1 | exact itoa_size _ hI.2.1 | exact itoa_size _ hI.2.2))
    go_wp2_with fail
    refine hrow.mono ?_
    rintro e w7 ⟨rfl, f7⟩
    go_wp2_with fail
    go_ret
    exact ⟨rfl, f7⟩
  · -- mend
    have c0 : w2.cell? ⟨w.heap.size, 0, none⟩ = some (.int .i64 4) := S.c 0
    have c1 : w2.cell? ⟨w.heap.size, 1, none⟩ = some (.int .i64 node) := S.c 1
    have c2 : w2.cell? ⟨w.heap.size, 2, none⟩ = some (.int .i64 fate) := S.c 2
    have c3 : w2.cell? ⟨w.heap.size, 3, none⟩ = some (.int .i64 n) := S.c 3
    go_wp2_with fail
    refine (sd_ints S [node] (by simp; exact hI.1) (by simp) _ rfl _ rfl _ rfl).mono ?_
    rintro e w3 ⟨v3, rfl, S3, I3, f3⟩
    go_wp2_with fail
    refine (sd_add S3 [Scr.itoaB node] v3 I3 (by simp) (by simp) (by simp)).mono ?_
    rintro e w4 ⟨rfl, S4, g4⟩
    clear c0 c1 c2 c3
    have c0 : w4.cell? ⟨w.heap.size, 0, none⟩ = some (.int .i64 4) := S4.c 0
    have c1 : w4.cell? ⟨w.heap.size, 1, none⟩ = some (.int .i64 node) := S4.c 1
    have c2 : w4.cell? ⟨w.heap.size, 2, none⟩ = some (.int .i64 fate) := S4.c 2
    have c3 : w4.cell? ⟨w.heap.size, 3, none⟩ = some (.int .i64 n) := S4.c 3
    go_wp2_with fail
    refine (sd_ints S4 [fate] (by simp; exact hI.2.1) (by simp) _ rfl _ rfl _ rfl).mono ?_
    rintro e w5 ⟨v5, rfl, S5, I5, f5⟩
    go_wp2_with fail
    refine (sd_add S5 [Scr.itoaB fate] v5 I5 (by simp) (by simp) (by simp)).mono ?_
    rintro e w6 ⟨rfl, S6, g6⟩
    clear c0 c1 c2 c3
    have c0 : w6.cell? ⟨w.heap.size, 0, none⟩ = some (.int .i64 4) := S6.c 0
    have c1 : w6.cell? ⟨w.heap.size, 1, none⟩ = some (.int .i64 node) := S6.c 1
    have c2 : w6.cell? ⟨w.heap.size, 2, none⟩ = some (.int .i64 fate) := S6.c 2
    have c3 : w6.cell? ⟨w.heap.size, 3, none⟩ = some (.int .i64 n) := S6.c 3
    obtain ⟨ra, rl, rc, cw, hrow⟩ := sd_row S6 (by simp) (by
      intro y hy
      simp only [List.mem_append, List.mem_cons, List.not_mem_nil, or_false] at hy
      rcases hy with (hy | hy) | hy
      all_goals (rw [hy]; first | exact name_size _ | exact hex_size _ hbl | exact itoa_size _ hI.1 | exact itoa_size _ hI.2.1 | exact itoa_size _ hI.2.2))
    go_wp2_with fail
    refine hrow.mono ?_
    rintro e w7 ⟨rfl, f7⟩
    go_wp2_with fail
    go_ret
    exact ⟨rfl, f7⟩
  · -- come
    have c0 : w2.cell? ⟨w.heap.size, 0, none⟩ = some (.int .i64 5) := S.c 0
    have c1 : w2.cell? ⟨w.heap.size, 1, none⟩ = some (.int .i64 node) := S.c 1
    have c2 : w2.cell? ⟨w.heap.size, 2, none⟩ = some (.int .i64 fate) := S.c 2
    have c3 : w2.cell? ⟨w.heap.size, 3, none⟩ = some (.int .i64 n) := S.c 3
    go_wp2_with fail
    refine (sd_ints S [n] (by simp; exact hI.2.2) (by simp) _ rfl _ rfl _ rfl).mono ?_
    rintro e w3 ⟨v3, rfl, S3, I3, f3⟩
    go_wp2_with fail
    refine (sd_add S3 [Scr.itoaB n] v3 I3 (by simp) (by simp) (by simp)).mono ?_
    rintro e w4 ⟨rfl, S4, g4⟩
    clear c0 c1 c2 c3
    have c0 : w4.cell? ⟨w.heap.size, 0, none⟩ = some (.int .i64 5) := S4.c 0
    have c1 : w4.cell? ⟨w.heap.size, 1, none⟩ = some (.int .i64 node) := S4.c 1
    have c2 : w4.cell? ⟨w.heap.size, 2, none⟩ = some (.int .i64 fate) := S4.c 2
    have c3 : w4.cell? ⟨w.heap.size, 3, none⟩ = some (.int .i64 n) := S4.c 3
    obtain ⟨ra, rl, rc, cw, hrow⟩ := sd_row S4 (by simp) (by
      intro y hy
      simp only [List.mem_append, List.mem_cons, List.not_mem_nil, or_false] at hy
      rcases hy with hy | hy
      all_goals (rw [hy]; first | exact name_size _ | exact hex_size _ hbl | exact itoa_size _ hI.1 | exact itoa_size _ hI.2.1 | exact itoa_size _ hI.2.2))
    go_wp2_with fail
    refine hrow.mono ?_
    rintro e w5 ⟨rfl, f5⟩
    go_wp2_with fail
    go_ret
    exact ⟨rfl, f5⟩
  · -- crash
    have c0 : w2.cell? ⟨w.heap.size, 0, none⟩ = some (.int .i64 6) := S.c 0
    have c1 : w2.cell? ⟨w.heap.size, 1, none⟩ = some (.int .i64 node) := S.c 1
    have c2 : w2.cell? ⟨w.heap.size, 2, none⟩ = some (.int .i64 fate) := S.c 2
    have c3 : w2.cell? ⟨w.heap.size, 3, none⟩ = some (.int .i64 n) := S.c 3
    go_wp2_with fail
    refine (sd_ints S [node] (by simp; exact hI.1) (by simp) _ rfl _ rfl _ rfl).mono ?_
    rintro e w3 ⟨v3, rfl, S3, I3, f3⟩
    go_wp2_with fail
    refine (sd_add S3 [Scr.itoaB node] v3 I3 (by simp) (by simp) (by simp)).mono ?_
    rintro e w4 ⟨rfl, S4, g4⟩
    clear c0 c1 c2 c3
    have c0 : w4.cell? ⟨w.heap.size, 0, none⟩ = some (.int .i64 6) := S4.c 0
    have c1 : w4.cell? ⟨w.heap.size, 1, none⟩ = some (.int .i64 node) := S4.c 1
    have c2 : w4.cell? ⟨w.heap.size, 2, none⟩ = some (.int .i64 fate) := S4.c 2
    have c3 : w4.cell? ⟨w.heap.size, 3, none⟩ = some (.int .i64 n) := S4.c 3
    have c5 : w4.cell? ⟨w.heap.size, 12, none⟩ = some (.slice va vl vc) := S4.c 12
    go_wp2_with fail
    refine (hex_ b _ _ (hvb.fr S4.fr (fun _ _ _ _ e => e)) ⟨_, _, _, rfl⟩ hbl).mono ?_
    rintro e w5 ⟨rfl, f5⟩
    go_wp2_with fail
    have S5 := S4.no (f5.alloc (.cells #[.string (Scr.hexB b)] 9))
    refine (sd_add S5 [Scr.hexB b] _ (inAt_new _ _) (by simp) (by simp) (by simp)).mono ?_
    rintro e w6 ⟨rfl, S6, g6⟩
    clear c0 c1 c2 c3 c5
    have c0 : w6.cell? ⟨w.heap.size, 0, none⟩ = some (.int .i64 6) := S6.c 0
    have c1 : w6.cell? ⟨w.heap.size, 1, none⟩ = some (.int .i64 node) := S6.c 1
    have c2 : w6.cell? ⟨w.heap.size, 2, none⟩ = some (.int .i64 fate) := S6.c 2
    have c3 : w6.cell? ⟨w.heap.size, 3, none⟩ = some (.int .i64 n) := S6.c 3
    obtain ⟨ra, rl, rc, cw, hrow⟩ := sd_row S6 (by simp) (by
      intro y hy
      simp only [List.mem_append, List.mem_cons, List.not_mem_nil, or_false] at hy
      rcases hy with (hy | hy) | hy
      all_goals (rw [hy]; first | exact name_size _ | exact hex_size _ hbl | exact itoa_size _ hI.1 | exact itoa_size _ hI.2.1 | exact itoa_size _ hI.2.2))
    go_wp2_with fail
    refine hrow.mono ?_
    rintro e w7 ⟨rfl, f7⟩
    go_wp2_with fail
    go_ret
    exact ⟨rfl, f7⟩
  · -- start
    have c0 : w2.cell? ⟨w.heap.size, 0, none⟩ = some (.int .i64 7) := S.c 0
    have c1 : w2.cell? ⟨w.heap.size, 1, none⟩ = some (.int .i64 node) := S.c 1
    have c2 : w2.cell? ⟨w.heap.size, 2, none⟩ = some (.int .i64 fate) := S.c 2
    have c3 : w2.cell? ⟨w.heap.size, 3, none⟩ = some (.int .i64 n) := S.c 3
    go_wp2_with fail
    refine (sd_ints S [node] (by simp; exact hI.1) (by simp) _ rfl _ rfl _ rfl).mono ?_
    rintro e w3 ⟨v3, rfl, S3, I3, f3⟩
    go_wp2_with fail
    refine (sd_add S3 [Scr.itoaB node] v3 I3 (by simp) (by simp) (by simp)).mono ?_
    rintro e w4 ⟨rfl, S4, g4⟩
    clear c0 c1 c2 c3
    have c0 : w4.cell? ⟨w.heap.size, 0, none⟩ = some (.int .i64 7) := S4.c 0
    have c1 : w4.cell? ⟨w.heap.size, 1, none⟩ = some (.int .i64 node) := S4.c 1
    have c2 : w4.cell? ⟨w.heap.size, 2, none⟩ = some (.int .i64 fate) := S4.c 2
    have c3 : w4.cell? ⟨w.heap.size, 3, none⟩ = some (.int .i64 n) := S4.c 3
    obtain ⟨ra, rl, rc, cw, hrow⟩ := sd_row S4 (by simp) (by
      intro y hy
      simp only [List.mem_append, List.mem_cons, List.not_mem_nil, or_false] at hy
      rcases hy with hy | hy
      all_goals (rw [hy]; first | exact name_size _ | exact hex_size _ hbl | exact itoa_size _ hI.1 | exact itoa_size _ hI.2.1 | exact itoa_size _ hI.2.2))
    go_wp2_with fail
    refine hrow.mono ?_
    rintro e w5 ⟨rfl, f5⟩
    go_wp2_with fail
    go_ret
    exact ⟨rfl, f5⟩
  · -- lose
    have c0 : w2.cell? ⟨w.heap.size, 0, none⟩ = some (.int .i64 8) := S.c 0
    have c1 : w2.cell? ⟨w.heap.size, 1, none⟩ = some (.int .i64 node) := S.c 1
    have c2 : w2.cell? ⟨w.heap.size, 2, none⟩ = some (.int .i64 fate) := S.c 2
    have c3 : w2.cell? ⟨w.heap.size, 3, none⟩ = some (.int .i64 n) := S.c 3
    go_wp2_with fail
    refine (sd_ints S [node] (by simp; exact hI.1) (by simp) _ rfl _ rfl _ rfl).mono ?_
    rintro e w3 ⟨v3, rfl, S3, I3, f3⟩
    go_wp2_with fail
    refine (sd_add S3 [Scr.itoaB node] v3 I3 (by simp) (by simp) (by simp)).mono ?_
    rintro e w4 ⟨rfl, S4, g4⟩
    clear c0 c1 c2 c3
    have c0 : w4.cell? ⟨w.heap.size, 0, none⟩ = some (.int .i64 8) := S4.c 0
    have c1 : w4.cell? ⟨w.heap.size, 1, none⟩ = some (.int .i64 node) := S4.c 1
    have c2 : w4.cell? ⟨w.heap.size, 2, none⟩ = some (.int .i64 fate) := S4.c 2
    have c3 : w4.cell? ⟨w.heap.size, 3, none⟩ = some (.int .i64 n) := S4.c 3
    obtain ⟨ra, rl, rc, cw, hrow⟩ := sd_row S4 (by simp) (by
      intro y hy
      simp only [List.mem_append, List.mem_cons, List.not_mem_nil, or_false] at hy
      rcases hy with hy | hy
      all_goals (rw [hy]; first | exact name_size _ | exact hex_size _ hbl | exact itoa_size _ hI.1 | exact itoa_size _ hI.2.1 | exact itoa_size _ hI.2.2))
    go_wp2_with fail
    refine hrow.mono ?_
    rintro e w5 ⟨rfl, f5⟩
    go_wp2_with fail
    go_ret
    exact ⟨rfl, f5⟩
  · -- replace
    have c0 : w2.cell? ⟨w.heap.size, 0, none⟩ = some (.int .i64 9) := S.c 0
    have c1 : w2.cell? ⟨w.heap.size, 1, none⟩ = some (.int .i64 node) := S.c 1
    have c2 : w2.cell? ⟨w.heap.size, 2, none⟩ = some (.int .i64 fate) := S.c 2
    have c3 : w2.cell? ⟨w.heap.size, 3, none⟩ = some (.int .i64 n) := S.c 3
    go_wp2_with fail
    refine (sd_ints S [node] (by simp; exact hI.1) (by simp) _ rfl _ rfl _ rfl).mono ?_
    rintro e w3 ⟨v3, rfl, S3, I3, f3⟩
    go_wp2_with fail
    refine (sd_add S3 [Scr.itoaB node] v3 I3 (by simp) (by simp) (by simp)).mono ?_
    rintro e w4 ⟨rfl, S4, g4⟩
    clear c0 c1 c2 c3
    have c0 : w4.cell? ⟨w.heap.size, 0, none⟩ = some (.int .i64 9) := S4.c 0
    have c1 : w4.cell? ⟨w.heap.size, 1, none⟩ = some (.int .i64 node) := S4.c 1
    have c2 : w4.cell? ⟨w.heap.size, 2, none⟩ = some (.int .i64 fate) := S4.c 2
    have c3 : w4.cell? ⟨w.heap.size, 3, none⟩ = some (.int .i64 n) := S4.c 3
    obtain ⟨ra, rl, rc, cw, hrow⟩ := sd_row S4 (by simp) (by
      intro y hy
      simp only [List.mem_append, List.mem_cons, List.not_mem_nil, or_false] at hy
      rcases hy with hy | hy
      all_goals (rw [hy]; first | exact name_size _ | exact hex_size _ hbl | exact itoa_size _ hI.1 | exact itoa_size _ hI.2.1 | exact itoa_size _ hI.2.2))
    go_wp2_with fail
    refine hrow.mono ?_
    rintro e w5 ⟨rfl, f5⟩
    go_wp2_with fail
    go_ret
    exact ⟨rfl, f5⟩
  · -- fuse
    have c0 : w2.cell? ⟨w.heap.size, 0, none⟩ = some (.int .i64 10) := S.c 0
    have c1 : w2.cell? ⟨w.heap.size, 1, none⟩ = some (.int .i64 node) := S.c 1
    have c2 : w2.cell? ⟨w.heap.size, 2, none⟩ = some (.int .i64 fate) := S.c 2
    have c3 : w2.cell? ⟨w.heap.size, 3, none⟩ = some (.int .i64 n) := S.c 3
    go_wp2_with fail
    refine (sd_ints S [node] (by simp; exact hI.1) (by simp) _ rfl _ rfl _ rfl).mono ?_
    rintro e w3 ⟨v3, rfl, S3, I3, f3⟩
    go_wp2_with fail
    refine (sd_add S3 [Scr.itoaB node] v3 I3 (by simp) (by simp) (by simp)).mono ?_
    rintro e w4 ⟨rfl, S4, g4⟩
    clear c0 c1 c2 c3
    have c0 : w4.cell? ⟨w.heap.size, 0, none⟩ = some (.int .i64 10) := S4.c 0
    have c1 : w4.cell? ⟨w.heap.size, 1, none⟩ = some (.int .i64 node) := S4.c 1
    have c2 : w4.cell? ⟨w.heap.size, 2, none⟩ = some (.int .i64 fate) := S4.c 2
    have c3 : w4.cell? ⟨w.heap.size, 3, none⟩ = some (.int .i64 n) := S4.c 3
    go_wp2_with fail
    refine (sd_ints S4 [n] (by simp; exact hI.2.2) (by simp) _ rfl _ rfl _ rfl).mono ?_
    rintro e w5 ⟨v5, rfl, S5, I5, f5⟩
    go_wp2_with fail
    refine (sd_add S5 [Scr.itoaB n] v5 I5 (by simp) (by simp) (by simp)).mono ?_
    rintro e w6 ⟨rfl, S6, g6⟩
    clear c0 c1 c2 c3
    have c0 : w6.cell? ⟨w.heap.size, 0, none⟩ = some (.int .i64 10) := S6.c 0
    have c1 : w6.cell? ⟨w.heap.size, 1, none⟩ = some (.int .i64 node) := S6.c 1
    have c2 : w6.cell? ⟨w.heap.size, 2, none⟩ = some (.int .i64 fate) := S6.c 2
    have c3 : w6.cell? ⟨w.heap.size, 3, none⟩ = some (.int .i64 n) := S6.c 3
    obtain ⟨ra, rl, rc, cw, hrow⟩ := sd_row S6 (by simp) (by
      intro y hy
      simp only [List.mem_append, List.mem_cons, List.not_mem_nil, or_false] at hy
      rcases hy with (hy | hy) | hy
      all_goals (rw [hy]; first | exact name_size _ | exact hex_size _ hbl | exact itoa_size _ hI.1 | exact itoa_size _ hI.2.1 | exact itoa_size _ hI.2.2))
    go_wp2_with fail
    refine hrow.mono ?_
    rintro e w7 ⟨rfl, f7⟩
    go_wp2_with fail
    go_ret
    exact ⟨rfl, f7⟩
end Go.Proofs.YtkcgijidgppeiaaDoor
