/- Texts cut at a byte and joined again; a text that is read, printed, is the text. Plain: no program in sight. -/
import Derived.Test.YtkcgijidgppeiaaDoorSpec
import Derived.Lib.SplitLaws
import Derived.Lib.ParseIntBTie
namespace Go.Proofs.YtkcgijidgppeiaaDoor
namespace Scr

/-- a list cut at each c. -/
def cut (c : UInt8) : List UInt8 → List (List UInt8)
  | [] => [[]]
  | x :: r => if x = c then [] :: cut c r else (x :: (cut c r).headD []) :: (cut c r).tail

theorem cut_ne (c : UInt8) (l : List UInt8) : cut c l ≠ [] := by
  cases l with
  | nil => simp [cut]
  | cons x r => unfold cut; split <;> simp

theorem cut_head_tail (c : UInt8) (l : List UInt8) : cut c l = (cut c l).headD [] :: (cut c l).tail := by
  have h := cut_ne c l
  cases hc : cut c l with
  | nil => exact absurd hc h
  | cons a b => simp

theorem index_cons (c x : UInt8) (r : List UInt8) : Lib.index (x :: r) [c] = if x = c then 0 else if Lib.index r [c] == -1 then -1 else Lib.index r [c] + 1 := by
  rw [Lib.index]
  by_cases h : x = c
  · subst h; simp [List.isPrefixOf]
  · have hp : ([c] : List UInt8).isPrefixOf (x :: r) = false := by simp [List.isPrefixOf, Ne.symm h]
    rw [hp, if_neg h]; simp

theorem splitK_cut (c : UInt8) : ∀ l : List UInt8, Lib.splitK [c] 0 (Lib.count l [c]) l = cut c l
  | [] => by
    have : Lib.count [] [c] = 0 := Lib.count_miss (by simp [Lib.index])
    rw [this]; rfl
  | x :: r => by
    have ih := splitK_cut c r
    by_cases h : x = c
    · subst h
      rw [Lib.count_cons_eq, Nat.add_comm, Lib.splitK, index_cons, if_pos rfl, cut, if_pos rfl]
      simp [ih]
    · rw [Lib.count_cons_ne x c r h, cut, if_neg h, ← ih]
      cases hk : Lib.count r [c] with
      | zero => simp [Lib.splitK]
      | succ k =>
        have hx : Lib.index r [c] ≠ -1 := by
          intro e
          rw [Lib.count_miss e] at hk
          cases hk
        have hge := Lib.index_ge r [c]
        obtain ⟨i, hi⟩ : ∃ i : Nat, Lib.index r [c] = i := ⟨(Lib.index r [c]).toNat, by omega⟩
        have hx2 : ¬ (Lib.index r [c] == -1) = true := fun e => hx (by simpa using e)
        have h1 : Lib.index (x :: r) [c] = ((i + 1 : Nat) : Int) := by rw [index_cons, if_neg h, if_neg hx2, hi]; omega
        have h2 : ¬ (((i + 1 : Nat) : Int) == -1) = true := by simp; omega
        have h3 : ¬ ((i : Int) == -1) = true := by simp; try omega
        rw [Lib.splitK, Lib.splitK, h1, hi, if_neg h2, if_neg h3]
        simp

theorem parts_cut (c : UInt8) (s : ByteArray) : (parts ⟨#[c]⟩ s).map (·.data.toList) = cut c s.data.toList := by
  unfold parts
  rw [Lib.splitB_data]
  exact splitK_cut c s.data.toList

theorem count_eq (c : UInt8) (s : ByteArray) : Lib.countB s ⟨#[c]⟩ = s.data.toList.count c := Lib.count_one c s.data.toList

theorem cut_length (c : UInt8) : ∀ l : List UInt8, (cut c l).length = l.count c + 1
  | [] => rfl
  | x :: r => by
    have ih := cut_length c r
    unfold cut
    split
    · rename_i h; subst h; simp [ih]
    · rename_i h
      rw [List.count_cons_of_ne (by simpa using h)]
      simp [ih]

/-- joined by a byte. -/
def glue (c : UInt8) (ws : List (List UInt8)) : List UInt8 := Lib.join ws [c]

theorem glue_one (c : UInt8) (w : List UInt8) : glue c [w] = w := Lib.join_one _ _
theorem glue_cons (c : UInt8) (w v : List UInt8) (r : List (List UInt8)) : glue c (w :: v :: r) = w ++ c :: glue c (v :: r) := by
  unfold glue
  rw [Lib.join_cons, Lib.join_cons]
  simp [Lib.joinTail]

theorem glue_cut (c : UInt8) : ∀ l : List UInt8, glue c (cut c l) = l
  | [] => glue_one _ _
  | x :: r => by
    have ih := glue_cut c r
    rw [cut_head_tail] at ih
    unfold cut
    split
    · rename_i h; subst h
      rw [cut_head_tail, glue_cons, ih]; rfl
    · cases ht : (cut c r).tail with
      | nil => rw [ht, glue_one] at ih; rw [glue_one, ih]
      | cons a b => rw [ht, glue_cons] at ih; rw [glue_cons, List.cons_append, ih]

theorem cut_plain (c : UInt8) : ∀ w : List UInt8, c ∉ w → cut c w = [w]
  | [], _ => rfl
  | x :: r, h => by
    have h1 : ¬ x = c := fun e => h (by simp [e])
    have h2 : c ∉ r := fun e => h (by simp [e])
    unfold cut
    rw [if_neg h1, cut_plain c r h2]; rfl

theorem cut_append (c : UInt8) : ∀ (w : List UInt8) (l : List UInt8), c ∉ w → cut c (w ++ c :: l) = w :: cut c l
  | [], l, _ => by rw [List.nil_append, cut, if_pos rfl]
  | x :: r, l, h => by
    have h1 : ¬ x = c := fun e => h (by simp [e])
    have h2 : c ∉ r := fun e => h (by simp [e])
    rw [List.cons_append, cut, if_neg h1, cut_append c r l h2]; rfl

theorem cut_glue (c : UInt8) : ∀ ws : List (List UInt8), ws ≠ [] → (∀ w ∈ ws, c ∉ w) → cut c (glue c ws) = ws
  | [], h, _ => absurd rfl h
  | [w], _, h => by rw [glue_one, cut_plain c w (h w (by simp))]
  | w :: v :: r, _, h => by
    rw [glue_cons, cut_append c w _ (h w (by simp)), cut_glue c (v :: r) (by simp) (fun u hu => h u (by simp [hu]))]

theorem cut_not (c : UInt8) : ∀ (l : List UInt8), ∀ w ∈ cut c l, c ∉ w
  | [], w, hw => by simp [cut] at hw; subst hw; simp
  | x :: r, w, hw => by
    have ih := cut_not c r
    unfold cut at hw
    split at hw
    · rcases List.mem_cons.1 hw with rfl | hw
      · simp
      · exact ih w hw
    · rename_i h
      rw [cut_head_tail] at ih
      rcases List.mem_cons.1 hw with rfl | hw
      · have := ih _ (List.mem_cons_self ..)
        intro hm
        rcases List.mem_cons.1 hm with e | hm
        · exact h e.symm
        · exact this hm
      · exact ih w (List.mem_cons_of_mem _ hw)

/-- what stands in lines, each with its end. -/
def unlines (ls : List (List UInt8)) : List UInt8 := (ls.map (· ++ [10])).flatten

theorem unlines_glue (ls : List (List UInt8)) : glue 10 (ls ++ [[]]) = unlines ls := by
  induction ls with
  | nil => rw [List.nil_append, glue_one]; rfl
  | cons a r ih =>
    cases r with
    | nil => rw [List.singleton_append, glue_cons, glue_one]; simp [unlines]
    | cons b t => rw [List.cons_append, List.cons_append, glue_cons, ← List.cons_append, ih]; simp [unlines]

theorem cut_unlines (ls : List (List UInt8)) (h : ∀ l ∈ ls, (10 : UInt8) ∉ l) : cut 10 (unlines ls) = ls ++ [[]] := by
  rw [← unlines_glue]
  refine cut_glue 10 _ (by simp) (fun w hw => ?_)
  rcases List.mem_append.1 hw with hw | hw
  · exact h w hw
  · simp at hw; subst hw; simp
end Scr
end Go.Proofs.YtkcgijidgppeiaaDoor
