/- A line's words, read as the reference reads them: how many there are, and what each one is. Plain: no program in sight. -/
import Derived.Test.YtkcgijidgppeiaaDoorL4
namespace Go.Proofs.YtkcgijidgppeiaaDoor
namespace Scr

def whole {α : Type} : Option (α × Ws) → Option α
  | some (x, []) => some x
  | _ => none
def config1 (ws : Ws) : Option Cfg := whole (config ws)
def event1 (ws : Ws) : Option Ev := whole (event ws)
def op1 (ws : Ws) : Option OpS := whole (op ws)

theorem whole_some {α : Type} {o : Option (α × Ws)} {x : α} (h : whole o = some x) : o = some (x, []) := by
  unfold whole at h
  split at h
  · injection h with h; subst h; rfl
  · cases h

theorem readLine_zero (c : Cfg) (evs : List Ev) (s : ByteArray) : readLine 0 c evs s = (config1 (parts space s)).map (·, evs) := by
  unfold readLine config1 whole
  rw [if_pos rfl]
  cases config (parts space s) with
  | none => rfl
  | some p => obtain ⟨x, r⟩ := p; cases r <;> rfl
theorem readLine_pos {i : Int} (hi : i ≠ 0) (c : Cfg) (evs : List Ev) (s : ByteArray) : readLine i c evs s = (event1 (parts space s)).map (c, evs ++ [·]) := by
  unfold readLine event1 whole
  rw [if_neg hi]
  cases event (parts space s) with
  | none => rfl
  | some p => obtain ⟨x, r⟩ := p; cases r <;> rfl

/-- a word's number, its bytes, its flag: the value, and whether it is one. -/
def nV (w : ByteArray) : Int := (numW w.data.toList).getD 0
def nOk (w : ByteArray) : Bool := (numW w.data.toList).isSome
def bV (w : ByteArray) : Bs := (bytesW w.data.toList).getD []
def bOk (w : ByteArray) : Bool := (bytesW w.data.toList).isSome
def fV (w : ByteArray) : Bool := w.data.toList == [49]
def fOk (w : ByteArray) : Bool := w.data.toList == [48] || w.data.toList == [49]

theorem num_cons (w : ByteArray) (r : Ws) : num (w :: r) = if nOk w then some (nV w, r) else none := by
  unfold num nOk nV
  dsimp only
  cases numW w.data.toList <;> simp
theorem bytes_cons (w : ByteArray) (r : Ws) : bytes (w :: r) = if bOk w then some (bV w, r) else none := by
  unfold bytes bOk bV
  dsimp only
  cases bytesW w.data.toList <;> simp
theorem flag_cons (w : ByteArray) (r : Ws) : flag (w :: r) = if fOk w then some (fV w, r) else none := by
  have i0 : Lib.itoa 0 = [48] := by have := congrArg (fun b : ByteArray => b.data.toList) itoaB_0; simpa [itoaB, bitB] using this
  have i1 : Lib.itoa 1 = [49] := by have := congrArg (fun b : ByteArray => b.data.toList) itoaB_1; simpa [itoaB, bitB] using this
  unfold flag fOk fV
  rw [num_cons]
  cases h : numW w.data.toList with
  | none =>
    have h0 : w.data.toList ≠ [48] := fun e => by
      rw [e, ← i0, numW_itoa 0 (by decide) (by decide)] at h; cases h
    have h1 : w.data.toList ≠ [49] := fun e => by
      rw [e, ← i1, numW_itoa 1 (by decide) (by decide)] at h; cases h
    have e0 : (w.data.toList == [48]) = false := by rw [beq_eq_false_iff_ne]; exact h0
    have e1 : (w.data.toList == [49]) = false := by rw [beq_eq_false_iff_ne]; exact h1
    rw [e0, e1]
    simp [nOk, h]
  | some v =>
    have hb := numW_back h
    by_cases v0 : v = 0
    · subst v0
      rw [i0] at hb
      have e0 : (w.data.toList == [48]) = true := by rw [beq_iff_eq]; exact hb.symm
      have e1 : (w.data.toList == [49]) = false := by rw [← hb]; rfl
      rw [e0, e1]
      simp [nOk, nV, h]
    · by_cases v1 : v = 1
      · subst v1
        rw [i1] at hb
        have e1 : (w.data.toList == [49]) = true := by rw [beq_iff_eq]; exact hb.symm
        rw [e1]
        simp [nOk, nV, h]
      · have h0 : w.data.toList ≠ [48] := fun e => by
          rw [e, ← i0, numW_itoa 0 (by decide) (by decide)] at h; injection h with h; exact v0 h.symm
        have h1 : w.data.toList ≠ [49] := fun e => by
          rw [e, ← i1, numW_itoa 1 (by decide) (by decide)] at h; injection h with h; exact v1 h.symm
        have e0 : (w.data.toList == [48]) = false := by rw [beq_eq_false_iff_ne]; exact h0
        have e1 : (w.data.toList == [49]) = false := by rw [beq_eq_false_iff_ne]; exact h1
        rw [e0, e1]
        simp [nOk, nV, h, v0, v1]

theorem num_nil : num [] = none := rfl
theorem bytes_nil : bytes [] = none := rfl
theorem flag_nil : flag [] = none := rfl

theorem op1_eight (a b c d e f g h : ByteArray) : op1 [a, b, c, d, e, f, g, h] =
    if nOk a && bOk b && bOk c && nOk d && nOk e && nOk f && fOk g && bOk h then some ⟨nV a, bV b, bV c, nV d, nV e, nV f, fV g, bV h⟩ else none := by
  unfold op1 op
  rw [num_cons]
  cases nOk a
  · rfl
  simp only [if_true, Option.bind_some]
  rw [bytes_cons]
  cases bOk b
  · rfl
  simp only [if_true, Option.bind_some]
  rw [bytes_cons]
  cases bOk c
  · rfl
  simp only [if_true, Option.bind_some]
  rw [num_cons]
  cases nOk d
  · rfl
  simp only [if_true, Option.bind_some]
  rw [num_cons]
  cases nOk e
  · rfl
  simp only [if_true, Option.bind_some]
  rw [num_cons]
  cases nOk f
  · rfl
  simp only [if_true, Option.bind_some]
  rw [flag_cons]
  cases fOk g
  · rfl
  simp only [if_true, Option.bind_some]
  rw [bytes_cons]
  cases bOk h
  · rfl
  simp only [if_true, Option.bind_some]
  rfl

theorem config1_six (a b c d e f : ByteArray) : config1 [a, b, c, d, e, f] =
    if (a.data.toList == [119, 111, 114, 108, 100]) && nOk b && nOk c && nOk d && nOk e && nOk f then some ⟨nV b, nV c, nV d, nV e, nV f⟩ else none := by
  unfold config1 config
  simp only [word]
  by_cases hw : a.data.toList = [119, 111, 114, 108, 100]
  · rw [if_neg (by simp [hw])]
    have : (a.data.toList == [119, 111, 114, 108, 100]) = true := by rw [hw]; rfl
    rw [this]
    rw [num_cons]
    cases nOk b
    · rfl
    simp only [if_true, Option.bind_some]
    rw [num_cons]
    cases nOk c
    · rfl
    simp only [if_true, Option.bind_some]
    rw [num_cons]
    cases nOk d
    · rfl
    simp only [if_true, Option.bind_some]
    rw [num_cons]
    cases nOk e
    · rfl
    simp only [if_true, Option.bind_some]
    rw [num_cons]
    cases nOk f
    · rfl
    simp only [if_true, Option.bind_some]
    rfl
  · rw [if_pos hw]
    have : (a.data.toList == [119, 111, 114, 108, 100]) = false := by rw [beq_eq_false_iff_ne]; exact hw
    rw [this]; rfl

theorem config1_len {ws : Ws} (h : ws.length ≠ 6) : config1 ws = none := by
  cases hc : config1 ws with
  | none => rfl
  | some x =>
    have := config_back (whole_some hc)
    rw [this] at h
    simp at h
theorem config1_word {a : ByteArray} {r : Ws} (h : a.data.toList ≠ [119, 111, 114, 108, 100]) : config1 (a :: r) = none := by
  unfold config1 config
  simp only [word]
  rw [if_pos h]; rfl

def many (k : Nat) : Nat := ([0, 10, 3, 3, 3, 2, 3, 2, 2, 2, 3] : List Nat).getD k 0

theorem saidWs_len {x : Ev} (h : 1 ≤ x.kind ∧ x.kind ≤ 10) : (saidWs x).length = many x.kind.toNat := by
  obtain ⟨k, node, fate, n, o, b⟩ := x
  dsimp only at h
  obtain ⟨m, rfl⟩ : ∃ m : Nat, (m : Int) = k := ⟨k.toNat, by omega⟩
  have hm : m = 1 ∨ m = 2 ∨ m = 3 ∨ m = 4 ∨ m = 5 ∨ m = 6 ∨ m = 7 ∨ m = 8 ∨ m = 9 ∨ m = 10 := by omega
  rcases hm with rfl | rfl | rfl | rfl | rfl | rfl | rfl | rfl | rfl | rfl <;> simp [saidWs, many]

/-- the reference's kind: 0 where there is none. -/
def rkind (w : ByteArray) : Nat := if kindOf w.data.toList = 11 then 0 else kindOf w.data.toList
theorem kindOf_le (w : ByteArray) : kindOf w.data.toList ≤ 11 ∧ 1 ≤ kindOf w.data.toList := by
  have := kindFrom_name 10 1 w.data.toList rfl
  exact ⟨this.1, this.2.1⟩

theorem event1_zero {w : ByteArray} {r : Ws} (h : rkind w = 0) : event1 (w :: r) = none := by
  have hk := kindOf_le w
  have h11 : kindOf w.data.toList = 11 := by
    unfold rkind at h
    split at h
    · assumption
    · omega
  unfold event1 event
  simp only [word, h11]
  rfl

theorem event1_kind {w : ByteArray} {r : Ws} {x : Ev} (h : event (w :: r) = some (x, [])) : x.kind = kindOf w.data.toList ∧ kindOf w.data.toList ≤ 10 := by
  obtain ⟨hb, h1, h2⟩ := event_back h
  rw [List.append_nil] at hb
  have hw : w = nameB x.kind := by
    unfold saidWs at hb
    simp at hb
    exact hb.1
  have e : (nameB x.kind).data.toList = name x.kind := by simp [nameB]
  have := kindOf_of x.kind ⟨h1, h2⟩
  rw [hw, e]
  omega

theorem event1_len {w : ByteArray} {r : Ws} {k : Nat} (hk : rkind w = k) (h : r.length + 1 ≠ many k) : event1 (w :: r) = none := by
  cases he : event1 (w :: r) with
  | none => rfl
  | some x =>
    have hx := whole_some he
    obtain ⟨h1, h2⟩ := event1_kind hx
    obtain ⟨hb, h3, h4⟩ := event_back hx
    rw [List.append_nil] at hb
    have hl := congrArg List.length hb
    rw [saidWs_len ⟨h3, h4⟩, List.length_cons] at hl
    unfold rkind at hk
    rw [if_neg (by omega)] at hk
    rw [hl] at h
    exact absurd (by congr 1; omega) h

theorem rkind_kind {w : ByteArray} {k : Nat} (hk : rkind w = k) (h0 : k ≠ 0) : kindOf w.data.toList = k := by
  unfold rkind at hk
  split at hk
  · omega
  · exact hk

theorem event1_begin {w : ByteArray} (hk : rkind w = 1) (a : ByteArray) (r : Ws) : event1 (w :: a :: r) = if nOk a && (op1 r).isSome then some { Ev.zero with kind := 1, node := nV a, op := (op1 r).getD OpS.zero } else none := by
  have hk := rkind_kind hk (by decide)
  unfold event1 event op1
  simp only [word, hk]
  show whole ((num (a :: r)).bind _) = _
  rw [num_cons]
  cases nOk a
  · rfl
  simp only [if_true, Option.bind_some]
  cases hop : op r with
  | none => rfl
  | some p =>
    obtain ⟨o, r'⟩ := p
    cases r' <;> rfl
theorem event1_fate {w : ByteArray} {k : Nat} (hk : rkind w = k) (h : k = 2 ∨ k = 3 ∨ k = 4) (a b : ByteArray) : event1 [w, a, b] = if nOk a && nOk b then some { Ev.zero with kind := k, node := nV a, fate := nV b } else none := by
  have hk := rkind_kind hk (by omega)
  unfold event1 event
  simp only [word, hk]
  rcases h with rfl | rfl | rfl
  all_goals
    show whole ((num (a :: [b])).bind _) = _
    rw [num_cons]
    cases nOk a
    · rfl
    simp only [if_true, Option.bind_some]
    rw [num_cons]
    cases nOk b
    · rfl
    simp only [if_true, Option.bind_some]
    rfl
theorem event1_come {w : ByteArray} (hk : rkind w = 5) (a : ByteArray) : event1 [w, a] = if nOk a then some { Ev.zero with kind := 5, n := nV a } else none := by
  have hk := rkind_kind hk (by decide)
  unfold event1 event
  simp only [word, hk, num_cons]
  cases nOk a <;> rfl
theorem event1_crash {w : ByteArray} (hk : rkind w = 6) (a b : ByteArray) : event1 [w, a, b] = if nOk a && bOk b then some { Ev.zero with kind := 6, node := nV a, b := bV b } else none := by
  have hk := rkind_kind hk (by decide)
  unfold event1 event
  simp only [word, hk]
  show whole ((num (a :: [b])).bind _) = _
  rw [num_cons]
  cases nOk a
  · rfl
  simp only [if_true, Option.bind_some]
  rw [bytes_cons]
  cases bOk b
  · rfl
  simp only [if_true, Option.bind_some]
  rfl
theorem event1_node {w : ByteArray} {k : Nat} (hk : rkind w = k) (h : k = 7 ∨ k = 8 ∨ k = 9) (a : ByteArray) : event1 [w, a] = if nOk a then some { Ev.zero with kind := k, node := nV a } else none := by
  have hk := rkind_kind hk (by omega)
  unfold event1 event
  simp only [word, hk, num_cons]
  rcases h with rfl | rfl | rfl <;> cases nOk a <;> rfl
theorem event1_fuse {w : ByteArray} (hk : rkind w = 10) (a b : ByteArray) : event1 [w, a, b] = if nOk a && nOk b then some { Ev.zero with kind := 10, node := nV a, n := nV b } else none := by
  have hk := rkind_kind hk (by decide)
  unfold event1 event
  simp only [word, hk]
  show whole ((num (a :: [b])).bind _) = _
  rw [num_cons]
  cases nOk a
  · rfl
  simp only [if_true, Option.bind_some]
  rw [num_cons]
  cases nOk b
  · rfl
  simp only [if_true, Option.bind_some]
  rfl

/-- the kind, as the reference finds it: the last of the first k kinds whose name it is. -/
theorem rkind_of (w : ByteArray) (k : Nat) (h1 : 1 ≤ k) (h2 : k ≤ 10) (h : w.data.toList = name k) : rkind w = k := by
  have := kindOf_of k ⟨by omega, by omega⟩
  unfold rkind
  rw [h, if_neg (by omega)]
  omega
theorem rkind_none (w : ByteArray) (h : ∀ k : Nat, 1 ≤ k → k ≤ 10 → w.data.toList ≠ name k) : rkind w = 0 := by
  unfold rkind
  split
  · rfl
  · rename_i hn
    have hk := kindOf_le w
    have := kindOf_name w.data.toList _ rfl (by omega)
    exact absurd this.1.symm (h _ hk.2 (by omega))
end Scr
end Go.Proofs.YtkcgijidgppeiaaDoor
