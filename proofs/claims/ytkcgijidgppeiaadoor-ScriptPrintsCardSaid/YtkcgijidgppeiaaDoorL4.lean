/- What is printed is read again: it is what was printed, each event with what its line has alone. Plain: no program in sight. -/
import Derived.Test.YtkcgijidgppeiaaDoorL3
namespace Go.Proofs.YtkcgijidgppeiaaDoor
namespace Scr

def In64 (n : Int) : Prop := -9223372036854775808 ≤ n ∧ n ≤ 9223372036854775807
def OpS.Ok (o : OpS) : Prop := In64 o.kind ∧ In64 o.handle ∧ In64 o.pos ∧ In64 o.n
def Ev.Ok (x : Ev) : Prop := In64 x.node ∧ In64 x.fate ∧ In64 x.n ∧ x.op.Ok
def Cfg.Ok (c : Cfg) : Prop := In64 c.servers ∧ In64 c.clients ∧ In64 c.sectors ∧ In64 c.journal ∧ In64 c.tries

/-- an event with what its line has alone. -/
def spare (x : Ev) : Ev :=
  ⟨x.kind, if x.kind = 5 then 0 else x.node, if x.kind = 2 ∨ x.kind = 3 ∨ x.kind = 4 then x.fate else 0, if x.kind = 5 ∨ x.kind = 10 then x.n else 0, if x.kind = 1 then x.op else OpS.zero, if x.kind = 6 then x.b else []⟩

theorem num_itoa {v : Int} (h : In64 v) (r : Ws) : num (itoaB v :: r) = some (v, r) := by
  have e : (itoaB v).data.toList = Lib.itoa v := by simp [itoaB]
  unfold num
  dsimp only
  rw [e, numW_itoa v h.1 h.2]
theorem bytes_hex (b : Bs) (r : Ws) : bytes (hexB b :: r) = some (b, r) := by
  unfold bytes
  dsimp only
  rw [bytesW_hexB]
theorem flag_bit (f : Bool) (r : Ws) : flag (bitB f :: r) = some (f, r) := by
  cases f
  · rw [← itoaB_0]; unfold flag; rw [num_itoa ⟨by decide, by decide⟩]; rfl
  · rw [← itoaB_1]; unfold flag; rw [num_itoa ⟨by decide, by decide⟩]; rfl

theorem op_said {o : OpS} (h : o.Ok) (r : Ws) : op ([itoaB o.kind, hexB o.path, hexB o.to, itoaB o.handle, itoaB o.pos, itoaB o.n, bitB o.writes, hexB o.b] ++ r) = some (o, r) := by
  obtain ⟨h1, h2, h3, h4⟩ := h
  unfold op
  simp only [List.cons_append, List.nil_append, num_itoa h1, num_itoa h2, num_itoa h3, num_itoa h4, bytes_hex, flag_bit, Option.bind_some]

theorem kindOf_of (k : Int) (h : 1 ≤ k ∧ k ≤ 10) : (kindOf (name k) : Int) = k := by
  have hk : ∀ k : Fin 10, kindOf (name ((k.val : Int) + 1)) = k.val + 1 := by decide +kernel
  have := hk ⟨(k - 1).toNat, by omega⟩
  dsimp only at this
  rw [show (((k - 1).toNat : Nat) : Int) + 1 = k by omega] at this
  omega

theorem event_said {x : Ev} (hk : 1 ≤ x.kind ∧ x.kind ≤ 10) (h : x.Ok) : event (saidWs x) = some (spare x, []) := by
  obtain ⟨h1, h2, h3, h4⟩ := h
  obtain ⟨k, node, fate, n, o, b⟩ := x
  dsimp only at *
  obtain ⟨m, hkk⟩ : ∃ m : Nat, (m : Int) = k := ⟨k.toNat, by omega⟩
  have hm : m = 1 ∨ m = 2 ∨ m = 3 ∨ m = 4 ∨ m = 5 ∨ m = 6 ∨ m = 7 ∨ m = 8 ∨ m = 9 ∨ m = 10 := by omega
  subst hkk
  have kk1 : kindOf (nameB 1).data.toList = 1 := by decide +kernel
  have kk2 : kindOf (nameB 2).data.toList = 2 := by decide +kernel
  have kk3 : kindOf (nameB 3).data.toList = 3 := by decide +kernel
  have kk4 : kindOf (nameB 4).data.toList = 4 := by decide +kernel
  have kk5 : kindOf (nameB 5).data.toList = 5 := by decide +kernel
  have kk6 : kindOf (nameB 6).data.toList = 6 := by decide +kernel
  have kk7 : kindOf (nameB 7).data.toList = 7 := by decide +kernel
  have kk8 : kindOf (nameB 8).data.toList = 8 := by decide +kernel
  have kk9 : kindOf (nameB 9).data.toList = 9 := by decide +kernel
  have kk10 : kindOf (nameB 10).data.toList = 10 := by decide +kernel
  have hop := op_said h4 []
  rw [List.append_nil] at hop
  rcases hm with rfl | rfl | rfl | rfl | rfl | rfl | rfl | rfl | rfl | rfl <;>
    simp [event, saidWs, word, kk1, kk2, kk3, kk4, kk5, kk6, kk7, kk8, kk9, kk10, num_itoa h1, num_itoa h2, num_itoa h3, bytes_hex, spare, Ev.zero, hop]

theorem config_said {c : Cfg} (h : c.Ok) : config [wordW, itoaB c.servers, itoaB c.clients, itoaB c.sectors, itoaB c.journal, itoaB c.tries] = some (c, []) := by
  obtain ⟨h1, h2, h3, h4, h5⟩ := h
  have hw : wordW.data.toList = [119, 111, 114, 108, 100] := rfl
  simp only [config, word, hw, ne_eq, not_true_eq_false, if_false, num_itoa h1, num_itoa h2, num_itoa h3, num_itoa h4, num_itoa h5, Option.bind_some]

/-! ### no word holds a blank or a line's end -/
def Plain (w : ByteArray) : Prop := ∀ c ∈ w.data.toList, c ≠ 10 ∧ c ≠ 32

theorem plain_itoa (v : Int) : Plain (itoaB v) := by
  intro c hc
  have hd : ∀ c : UInt8, 48 ≤ c.toNat ∧ c.toNat ≤ 57 → c ≠ 10 ∧ c ≠ 32 := fun c h => ⟨by rintro rfl; revert h; decide, by rintro rfl; revert h; decide⟩
  have e : (itoaB v).data.toList = Lib.itoa v := by simp [itoaB]
  rw [e] at hc
  unfold Lib.itoa at hc
  split at hc
  · rcases List.mem_cons.1 hc with rfl | hc
    · decide
    · exact hd c (dec_digits _ c hc)
  · exact hd c (dec_digits _ c hc)
theorem plain_hex (b : Bs) : Plain (hexB b) := by
  intro c hc
  have hd : ∀ c ∈ digs, c ≠ 10 ∧ c ≠ 32 := by decide
  unfold hexB at hc
  split at hc
  · simp at hc; subst hc; decide
  · exact hd c (hexL_not b c (by simpa using hc))
theorem plain_bit (f : Bool) : Plain (bitB f) := by cases f <;> (intro c hc; simp [bitB] at hc; subst hc; decide)
theorem plain_name (k : Int) : Plain (nameB k) := by
  intro c hc
  have e : (nameB k).data.toList = name k := by simp [nameB]
  rw [e] at hc
  unfold name at hc
  split at hc
  · have hd : ∀ j : Fin 10, ∀ c ∈ names.getD j.val [], c ≠ 10 ∧ c ≠ 32 := by decide +kernel
    exact hd ⟨(k - 1).toNat, by omega⟩ c hc
  · simp at hc
theorem plain_world : Plain wordW := by intro c hc; revert c; decide

theorem plain_said (x : Ev) : ∀ w ∈ saidWs x, Plain w := by
  intro w hw
  unfold saidWs at hw
  rcases List.mem_append.1 hw with hw | hw
  · rcases List.mem_append.1 hw with hw | hw
    · simp at hw; subst hw; exact plain_name _
    · split at hw
      · simp at hw
      · simp at hw; subst hw; exact plain_itoa _
  · split at hw
    · simp at hw
      rcases hw with rfl | rfl | rfl | rfl | rfl | rfl | rfl | rfl
      · exact plain_itoa _
      · exact plain_hex _
      · exact plain_hex _
      · exact plain_itoa _
      · exact plain_itoa _
      · exact plain_itoa _
      · exact plain_bit _
      · exact plain_hex _
    · split at hw
      · simp at hw; subst hw; exact plain_itoa _
      · split at hw
        · simp at hw; subst hw; exact plain_itoa _
        · split at hw
          · simp at hw; subst hw; exact plain_hex _
          · simp at hw

/-- words as a line, without its end. -/
def lineL (ws : Ws) : List UInt8 := glue 32 (ws.map (·.data.toList))

theorem mem_glue (c d : UInt8) : ∀ ws : List (List UInt8), d ∈ glue c ws → d = c ∨ ∃ w ∈ ws, d ∈ w
  | [], h => by simp [glue, Lib.join_nil] at h
  | [w], h => by rw [glue_one] at h; exact .inr ⟨w, by simp, h⟩
  | w :: v :: r, h => by
    rw [glue_cons] at h
    rcases List.mem_append.1 h with h | h
    · exact .inr ⟨w, by simp, h⟩
    · rcases List.mem_cons.1 h with rfl | h
      · exact .inl rfl
      · rcases mem_glue c d (v :: r) h with h | ⟨u, hu, hd⟩
        · exact .inl h
        · exact .inr ⟨u, by simp [hu], hd⟩

theorem lineL_no10 (ws : Ws) (h : ∀ w ∈ ws, Plain w) : (10 : UInt8) ∉ lineL ws := by
  intro hm
  rcases mem_glue 32 10 _ hm with e | ⟨w, hw, hd⟩
  · exact absurd e (by decide)
  · obtain ⟨v, hv, rfl⟩ := List.mem_map.1 hw
    exact (h v hv 10 hd).1 rfl

theorem map_inj : ∀ a b : Ws, a.map (·.data.toList) = b.map (·.data.toList) → a = b
  | [], [], _ => rfl
  | [], _ :: _, h => by simp at h
  | _ :: _, [], h => by simp at h
  | x :: r, y :: s, h => by
    simp only [List.map_cons, List.cons.injEq] at h
    rw [ba_ext h.1, map_inj r s h.2]

theorem parts_line (ws : Ws) (h : ∀ w ∈ ws, Plain w) (hn : ws ≠ []) (s : ByteArray) (hs : s.data.toList = lineL ws) : parts space s = ws := by
  apply map_inj
  have := parts_cut 32 s
  unfold space
  rw [this, hs]
  refine cut_glue 32 _ (by simpa using hn) (fun w hw => ?_)
  obtain ⟨v, hv, rfl⟩ := List.mem_map.1 hw
  exact fun hm => (h v hv 32 hm).2 rfl

theorem saidWs_ne (x : Ev) : saidWs x ≠ [] := by simp [saidWs]

/-- what a text of lines has. -/
theorem text_lines {s : ByteArray} {ls : List (List UInt8)} (hs : s.data.toList = unlines ls) (h : ∀ l ∈ ls, (10 : UInt8) ∉ l) :
    (lines s).map (·.data.toList) = ls ∧ (last s).data.toList = [] ∧ Lib.countB s newline = ls.length := by
  obtain ⟨h1, h2⟩ := lines_last s
  rw [hs, cut_unlines ls h] at h1
  have := List.append_inj_left' h1 (by simp)
  have h3 := List.append_inj_right' h1 (by simp)
  refine ⟨this, by simpa using h3, ?_⟩
  rw [← h2, ← this]; simp

theorem readAll_said : ∀ (xs : List Ev) (ls : Ws) (i : Nat) (c : Cfg) (evs : List Ev), ls.map (·.data.toList) = (xs.map fun x => lineL (saidWs x)) → (∀ x ∈ xs, (1 ≤ x.kind ∧ x.kind ≤ 10) ∧ x.Ok) →
    readAll (i + 1) c evs ls = .ok (c, evs ++ xs.map spare)
  | [], [], i, c, evs, _, _ => by simp [readAll]
  | [], _ :: _, _, _, _, h, _ => by simp at h
  | _ :: _, [], _, _, _, h, _ => by simp at h
  | x :: xs, s :: ss, i, c, evs, h, hx => by
    simp only [List.map_cons, List.cons.injEq] at h
    have hp := parts_line (saidWs x) (plain_said x) (saidWs_ne x) s h.1
    have hk := hx x (by simp)
    have he := event_said hk.1 hk.2
    have hr : readLine ((i + 1 : Nat) : Int) c evs s = some (c, evs ++ [spare x]) := by
      unfold readLine
      rw [if_neg (by omega), hp, he]
    unfold readAll
    rw [hr]
    dsimp only
    rw [readAll_said xs ss (i + 1) c _ h.2 (fun y hy => hx y (by simp [hy]))]
    simp

theorem printFrom_some : ∀ (xs : List Ev) (out s : ByteArray), printFrom out xs = some s → s.data.toList = out.data.toList ++ (xs.map fun x => (saidB x).data.toList).flatten ∧ s.size ≤ 65536
  | [], out, s, h => by
    unfold printFrom at h
    split at h
    · cases h
    · injection h with h; subst h; exact ⟨by simp, by omega⟩
  | x :: r, out, s, h => by
    unfold printFrom at h
    split at h
    · cases h
    · obtain ⟨h1, h2⟩ := printFrom_some r _ s h
      refine ⟨?_, h2⟩
      rw [h1, ba_append]; simp

theorem name_range {k : Int} (h : (name k).isEmpty = false) : 1 ≤ k ∧ k ≤ 10 := by
  unfold name at h
  split at h
  · assumption
  · simp at h

/-- what is printed is read again. -/
theorem printed {c : Cfg} {evs : List Ev} (hc : c.Ok) (he : ∀ x ∈ evs, x.Ok) (h : (print c evs).2 = 0) : parse (print c evs).1 = (c, evs.map spare, 0, 0) := by
  unfold print at h ⊢
  split at h
  · simp at h
  · rename_i hany
    split at h
    · simp at h
    · rename_i hlen
      split at h
      · rename_i s hs
        rw [if_neg hany, if_neg hlen]
        show parse s = _
        obtain ⟨h1, h2⟩ := printFrom_some evs _ s hs
        have hk : ∀ x ∈ evs, 1 ≤ x.kind ∧ x.kind ≤ 10 := fun x hx => name_range (by
          simp only [Bool.not_eq_true, List.any_eq_false] at hany
          simpa using hany x hx)
        have hu : s.data.toList = unlines (lineL [wordW, itoaB c.servers, itoaB c.clients, itoaB c.sectors, itoaB c.journal, itoaB c.tries] :: evs.map fun x => lineL (saidWs x)) := by
          rw [h1, head_row, rowB_list]
          simp only [unlines, List.map_cons, List.flatten_cons, List.map_map]
          congr 2
          try (apply List.map_congr_left; intro x _; show (rowB (saidWs x)).data.toList = _; rw [rowB_list]; rfl)
        have hw : ∀ w ∈ [wordW, itoaB c.servers, itoaB c.clients, itoaB c.sectors, itoaB c.journal, itoaB c.tries], Plain w := by
          intro w hw
          simp only [List.mem_cons, List.not_mem_nil, or_false] at hw
          rcases hw with rfl | rfl | rfl | rfl | rfl | rfl
          · exact plain_world
          all_goals exact plain_itoa _
        obtain ⟨t1, t2, t3⟩ := text_lines hu (by
          intro l hl
          rcases List.mem_cons.1 hl with rfl | hl
          · exact lineL_no10 _ hw
          · obtain ⟨x, _, rfl⟩ := List.mem_map.1 hl
            exact lineL_no10 _ (plain_said x))
        have hlong : ¬ long s = true := by
          unfold long
          simp only [List.length_cons, List.length_map] at t3
          rw [isEmpty_list, t2, t3]
          simp
          omega
        have hrd : readAll 0 Cfg.zero [] (lines s) = .ok (c, evs.map spare) := by
          cases hl : lines s with
          | nil => rw [hl] at t1; simp at t1
          | cons l0 ls =>
            rw [hl] at t1
            simp only [List.map_cons, List.cons.injEq] at t1
            unfold readAll readLine
            rw [if_pos (show ((0 : Nat) : Int) = 0 from rfl), parts_line _ hw (by simp) l0 t1.1, config_said hc]
            dsimp only
            rw [readAll_said evs ls 0 c [] t1.2 (fun x hx => ⟨hk x hx, he x hx⟩)]
            simp
        unfold parse
        rw [if_neg hlong, hrd]
        dsimp only
        rw [if_neg]
        rw [isEmpty_list, t2, t3]
        simp
      · simp at h
end Scr
end Go.Proofs.YtkcgijidgppeiaaDoor
