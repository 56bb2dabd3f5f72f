/- A text cut while it is gone through byte by byte. Plain: no program in sight. -/
import Derived.Test.YtkcgijidgppeiaaDoorL5
namespace Go.Proofs.YtkcgijidgppeiaaDoor
namespace Scr

/-- up to i the text is cut into ps; the piece that is begun starts at f. -/
structure CutAt (c : UInt8) (L : List UInt8) (ps : List ByteArray) (f i : Nat) : Prop where
  le : f ≤ i
  len : i ≤ L.length
  cut : cut c L = ps.map (·.data.toList) ++ cut c (L.drop f)
  no : c ∉ (L.drop f).take (i - f)
  many : ps.length ≤ f

theorem CutAt.start (c : UInt8) (L : List UInt8) : CutAt c L [] 0 0 := ⟨Nat.le_refl _, Nat.zero_le _, by simp, by simp, Nat.le_refl _⟩

theorem CutAt.next {c x : UInt8} {L : List UInt8} {ps : List ByteArray} {f i : Nat} (h : CutAt c L ps f i) (hi : i < L.length) (hx : L[i] = x) (hn : x ≠ c) : CutAt c L ps f (i + 1) := by
  refine ⟨by have := h.le; omega, hi, h.cut, ?_, h.many⟩
  have e : (L.drop f).take (i + 1 - f) = (L.drop f).take (i - f) ++ [x] := by
    have hl := h.le
    rw [show i + 1 - f = (i - f) + 1 by omega, List.take_succ_eq_append_getElem (by rw [List.length_drop]; omega)]
    congr 2
    rw [List.getElem_drop, ← hx]
    congr 1; omega
  rw [e]
  intro hm
  rcases List.mem_append.1 hm with hm | hm
  · exact h.no hm
  · simp at hm; exact hn hm.symm

theorem CutAt.hit {c : UInt8} {L : List UInt8} {ps : List ByteArray} {f i : Nat} (h : CutAt c L ps f i) (hi : i < L.length) (hx : L[i] = c) (p : ByteArray) (hp : p.data.toList = (L.drop f).take (i - f)) : CutAt c L (ps ++ [p]) (i + 1) (i + 1) := by
  refine ⟨Nat.le_refl _, hi, ?_, by simp, by have := h.many; have := h.le; simp; omega⟩
  have e : L.drop f = (L.drop f).take (i - f) ++ c :: L.drop (i + 1) := by
    have hl := h.le
    conv => lhs; rw [← List.take_append_drop (i - f) (L.drop f)]
    rw [List.drop_drop, show f + (i - f) = i by omega, List.drop_eq_getElem_cons hi, hx]
  have e2 : Scr.cut c (L.drop f) = (L.drop f).take (i - f) :: Scr.cut c (L.drop (i + 1)) := by
    conv => lhs; rw [e]
    exact cut_append c _ _ h.no
  rw [h.cut, e2, List.map_append, List.map_cons, List.map_nil, hp]
  simp

theorem CutAt.done {c : UInt8} {L : List UInt8} {ps : List ByteArray} {f : Nat} (h : CutAt c L ps f L.length) (p : ByteArray) (hp : p.data.toList = L.drop f) : Scr.cut c L = (ps ++ [p]).map (·.data.toList) := by
  have hn := h.no
  rw [List.take_of_length_le (by rw [List.length_drop]; omega)] at hn
  rw [h.cut, cut_plain c _ hn, List.map_append, List.map_cons, List.map_nil, hp]

theorem CutAt.parts {c : UInt8} {s : ByteArray} {ps : List ByteArray} {f : Nat} (h : CutAt c s.data.toList ps f s.data.toList.length) (p : ByteArray) (hp : p.data.toList = s.data.toList.drop f) : Scr.parts ⟨#[c]⟩ s = ps ++ [p] := by
  apply map_inj
  rw [parts_cut, h.done p hp]

/-- the reference's lines: those that are ended, and the last one where something stands there. -/
def rlines (text : ByteArray) : List ByteArray × Bool :=
  if (last text).data.toList = [] then (lines text, true) else (lines text ++ [last text], false)

theorem parts_last (text : ByteArray) : parts newline text = lines text ++ [last text] := by
  apply map_inj
  have := (lines_last text).1
  rw [List.map_append, List.map_cons, List.map_nil, this]
  exact parts_cut 10 text
theorem parts_snoc {text p : ByteArray} {ps : List ByteArray} (h : parts newline text = ps ++ [p]) : lines text = ps ∧ last text = p := by
  rw [parts_last] at h
  exact ⟨List.append_inj_left' h rfl, by simpa using List.append_inj_right' h rfl⟩

end Scr
end Go.Proofs.YtkcgijidgppeiaaDoor
