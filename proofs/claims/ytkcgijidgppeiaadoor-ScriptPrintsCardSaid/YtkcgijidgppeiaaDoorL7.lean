/- What Parse says, by how far it is gone through. Plain: no program in sight. -/
import Derived.Test.YtkcgijidgppeiaaDoorL6
namespace Go.Proofs.YtkcgijidgppeiaaDoor
namespace Scr

theorem last_empty (text : ByteArray) : (last text).toList.isEmpty = (last text).data.toList.isEmpty := isEmpty_list _

theorem lines_count (text : ByteArray) : (lines text).length = Lib.countB text newline := (lines_last text).2

theorem rlines_end {text : ByteArray} (h : (last text).data.toList = []) : rlines text = (lines text, true) := by unfold rlines; rw [if_pos h]
theorem rlines_open {text : ByteArray} (h : (last text).data.toList ≠ []) : rlines text = (lines text ++ [last text], false) := by unfold rlines; rw [if_neg h]

theorem long_eq (text : ByteArray) : long text = true ↔ 65536 < text.size ∨ 2048 < (rlines text).1.length := by
  unfold long
  rw [last_empty]
  have hc := lines_count text
  cases hl : (last text).data.toList with
  | nil =>
    rw [rlines_end hl]
    simp [hc]
    omega
  | cons a r =>
    rw [rlines_open (by rw [hl]; simp)]
    simp [hc]
    omega

theorem not_long {text : ByteArray} (h1 : ¬ 65536 < text.size) (h2 : ¬ 2048 < (rlines text).1.length) : ¬ long text = true := fun h => by
  rcases (long_eq text).1 h with h | h
  · exact h1 h
  · exact h2 h

theorem parse_long {text : ByteArray} (h : long text = true) : parse text = (Cfg.zero, [], 0, 3) := by unfold parse; rw [if_pos h]
theorem parse_bad' {text : ByteArray} {i : Nat} {c : Cfg} {evs : List Ev} {s : ByteArray} {r : List ByteArray} (hl : ¬ long text = true) (h : readAll 0 Cfg.zero [] (lines text) = readAll i c evs (s :: r)) (hb : readLine i c evs s = none) :
    parse text = (Cfg.zero, [], ((i : Int) + 1), 18) := by
  unfold parse
  rw [if_neg hl, h, readAll, hb]
  rfl
theorem parse_open {text : ByteArray} {i : Nat} {c : Cfg} {evs : List Ev} (hl : ¬ long text = true) (h : readAll 0 Cfg.zero [] (lines text) = readAll i c evs []) (hn : (last text).data.toList ≠ []) :
    parse text = (Cfg.zero, [], ((lines text).length : Int) + 1, 18) := by
  unfold parse
  rw [if_neg hl, h, readAll]
  dsimp only
  rw [if_pos, lines_count]
  right
  rw [last_empty]
  cases hh : (last text).data.toList with
  | nil => exact absurd hh hn
  | cons a b => rfl
theorem parse_none {text : ByteArray} (hl : ¬ long text = true) (h : (lines text).length = 0) : parse text = (Cfg.zero, [], 1, 18) := by
  have he : lines text = [] := List.eq_nil_of_length_eq_zero h
  unfold parse
  rw [if_neg hl, he, readAll]
  dsimp only
  rw [lines_count] at h
  rw [if_pos (.inl h), h]; rfl
theorem parse_done {text : ByteArray} {i : Nat} {c : Cfg} {evs : List Ev} (hl : ¬ long text = true) (h : readAll 0 Cfg.zero [] (lines text) = readAll i c evs []) (hn : (last text).data.toList = []) (h0 : (lines text).length ≠ 0) :
    parse text = (c, evs, 0, 0) := by
  unfold parse
  rw [if_neg hl, h, readAll]
  dsimp only
  rw [if_neg]
  rw [last_empty, hn, ← lines_count]
  simp
  intro e
  exact h0 (by rw [e]; rfl)
theorem readAll_step {text : ByteArray} {i : Nat} {c c' : Cfg} {evs evs' : List Ev} {s : ByteArray} {r : List ByteArray} (h : readAll 0 Cfg.zero [] (lines text) = readAll i c evs (s :: r)) (hb : readLine i c evs s = some (c', evs')) :
    readAll 0 Cfg.zero [] (lines text) = readAll (i + 1) c' evs' r := by
  rw [h, readAll, hb]
end Scr
end Go.Proofs.YtkcgijidgppeiaaDoor
