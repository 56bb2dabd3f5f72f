/- The reference's words and lines, walked. -/
import Derived.Test.YtkcgijidgppeiaaDoorP11
import Derived.Test.YtkcgijidgppeiaaDoorL6
namespace Go.Proofs.YtkcgijidgppeiaaDoor
open Go.RowKit

theorem at_list (s : ByteArray) (j : Nat) (h : j < s.size) (h2 : j < s.data.toList.length) : s.data.toList[j] = s[j] := by
  obtain ⟨⟨l⟩⟩ := s
  rfl

set_option maxRecDepth 100000 in
set_option maxHeartbeats 800000 in
theorem words_ (s : ByteArray) (w : World) (hs : s.size ≤ 1048576) :
    Calls Tryd.prog 44 #[.string s] w fun e w' => ∃ v, e = .returned v ∧ w'.ownsRow w.heap.size 9 1 v (Scr.parts Scr.space s).length ((Scr.parts Scr.space s).map .string) ∧ Fr No w w' := by
  obtain ⟨i0, hi0, hz0, hz1, hz2⟩ := info_parts Tryd.info9
  have HI := Lib.hid hi0
  have HZ0 := Lib.hid hz0
  have HZ1 := Lib.hid hz1
  have HZ2 := Lib.hid hz2
  clear hi0 hz0 hz1 hz2
  have HL := Lib.hid (size_list s)
  go_enter Tryd.func44, Tryd.ntmps44
  go_wp2_with fail
  go_loopw [3, 4, 5] (fun o f i wr => ∃ (j k : Nat) (ps : List ByteArray), i = .int .i64 j ∧ f = .int .i64 k ∧ k ≤ j ∧ j ≤ s.size ∧ Hid (Scr.CutAt 32 s.data.toList ps k j) ∧ wr.ownsRow w.heap.size 9 1 o ps.length (ps.map .string) ∧ Fr No w wr)
    (fun _ _ i _ => s.size - (intOf i).toNat)
  case atStart => exact ⟨0, 0, [], rfl, rfl, Nat.le_refl _, Nat.zero_le _, Lib.hid (Scr.CutAt.start _ _), ⟨rfl, .inl ⟨rfl, rfl⟩⟩, Fr.refl _⟩
  case round =>
    obtain ⟨j, k, ps, rfl, rfl, hkj, hj, HC, hown, fr⟩ := hrel
    have hpm : ps.length ≤ 1048577 := by have := HC.out.many; omega
    have wsz := fr.size
    by_cases hlt : j < s.size
    · have qlt : (j : Int) < (s.size : Int) := by omega
      have hl2 : j < s.data.toList.length := by have := HL.out; omega
      by_cases hx : s[j] = 32
      · have qx : ((s[j].toNat : Int) == 32) = true := by rw [hx]; rfl
        have HX := Lib.hid hx
        clear hx
        go_wp2_with (at_builtin; refine wpList_append_own _ rfl _ _ 51 rfl w.heap.size 9 i0 (.string ⟨#[]⟩) 1 16 Tryd.underlying51 HI.out HZ0.out HZ1.out HZ2.out rfl (by decide) _ _ _ rfl (hown.alloc _) ⟨wr.heap.size, 0, none⟩ 1 1 [.string (s.extract k j)] rfl rfl ?c1 ?c2 ?c3 ?c4 ?c5 ?_)
        case c1 =>
          intro k u hk
          cases k with
          | zero => simp at hk; subst hk; exact World.cell?_alloc_at _ _ _ _ rfl
          | succ k => simp at hk
        case c2 => first | rfl | (intro u hu; simp at hu; subst hu; rfl)
        case c3 => unfold maxLen; omega
        case c4 => omega
        case c5 => simp; omega
        intro v' w3 hown' hgrow _
        have f3 : Fr No w w3 := by
          refine (fr.alloc _).grown hgrow ?_
          intro k hk
          exact .inr (hown.lt _ hk).1
        clear hgrow
        go_wp2_with fail
        go_roundw
        case rel =>
          refine ⟨j + 1, j + 1, ps ++ [s.extract k j], by go_num, by go_num, Nat.le_refl _, by omega, Lib.hid (HC.out.hit hl2 (by rw [at_list s j hlt hl2]; exact HX.out) _ (by rw [Lib.extract_data])), ?_, f3⟩
          rw [List.length_append, List.map_append]
          exact hown'
        case measure => simp [intOf]; omega
      · have qx : ((s[j].toNat : Int) == 32) = false := by
          rw [beq_eq_false_iff_ne]
          intro e
          exact hx (UInt8.toNat_inj.1 (by have h : (32 : UInt8).toNat = 32 := rfl; omega))
        have HX := Lib.hid hx
        clear hx
        go_wp2_with fail
        go_roundw
        case rel => exact ⟨j + 1, k, ps, by go_num, rfl, by omega, by omega, Lib.hid (HC.out.next hl2 (by rw [at_list s j hlt hl2]) HX.out), hown, fr⟩
        case measure => simp [intOf]; omega
    · obtain rfl : j = s.size := by omega
      have hd : Scr.parts Scr.space s = ps ++ [s.extract k s.size] := by
        have h := HC.out
        rw [HL.out] at h
        exact h.parts _ (by rw [Lib.extract_to_end])
      have HD := Lib.hid hd
      clear hd
      go_wp2_with (at_builtin; refine wpList_append_own _ rfl _ _ 51 rfl w.heap.size 9 i0 (.string ⟨#[]⟩) 1 16 Tryd.underlying51 HI.out HZ0.out HZ1.out HZ2.out rfl (by decide) _ _ _ rfl (hown.alloc _) ⟨wr.heap.size, 0, none⟩ 1 1 [.string (s.extract k s.size)] rfl rfl ?c1 ?c2 ?c3 ?c4 ?c5 ?_)
      case c1 =>
        intro k u hk
        cases k with
        | zero => simp at hk; subst hk; exact World.cell?_alloc_at _ _ _ _ rfl
        | succ k => simp at hk
      case c2 => first | rfl | (intro u hu; simp at hu; subst hu; rfl)
      case c3 => unfold maxLen; omega
      case c4 => omega
      case c5 => simp; omega
      intro v' w3 hown' hgrow _
      have f3 : Fr No w w3 := by
        refine (fr.alloc _).grown hgrow ?_
        intro k hk
        exact .inr (hown.lt _ hk).1
      clear hgrow
      go_wp2_with fail
      go_ret
      refine ⟨_, rfl, ?_, f3⟩
      rw [HD.out, List.length_append, List.map_append]
      exact hown'
set_option maxRecDepth 100000 in
set_option maxHeartbeats 800000 in
theorem lines_ (s : ByteArray) (w : World) (hs : s.size ≤ 1048576) :
    Calls Tryd.prog 22 #[.string s] w fun e w' => ∃ v, e = .returned (.tuple #[v, .bool (Scr.rlines s).2]) ∧ w'.ownsRow w.heap.size 9 1 v (Scr.rlines s).1.length ((Scr.rlines s).1.map .string) ∧ Fr No w w' := by
  obtain ⟨i0, hi0, hz0, hz1, hz2⟩ := info_parts Tryd.info9
  have HI := Lib.hid hi0
  have HZ0 := Lib.hid hz0
  have HZ1 := Lib.hid hz1
  have HZ2 := Lib.hid hz2
  clear hi0 hz0 hz1 hz2
  have HL := Lib.hid (size_list s)
  go_enter Tryd.func22, Tryd.ntmps22
  go_wp2_with fail
  go_loopw [4, 5, 6] (fun o f i wr => ∃ (j k : Nat) (ps : List ByteArray), i = .int .i64 j ∧ f = .int .i64 k ∧ k ≤ j ∧ j ≤ s.size ∧ Hid (Scr.CutAt 10 s.data.toList ps k j) ∧ wr.ownsRow w.heap.size 9 1 o ps.length (ps.map .string) ∧ Fr No w wr)
    (fun _ _ i _ => s.size - (intOf i).toNat)
  case atStart => exact ⟨0, 0, [], rfl, rfl, Nat.le_refl _, Nat.zero_le _, Lib.hid (Scr.CutAt.start _ _), ⟨rfl, .inl ⟨rfl, rfl⟩⟩, Fr.refl _⟩
  case round =>
    obtain ⟨j, k, ps, rfl, rfl, hkj, hj, HC, hown, fr⟩ := hrel
    have hpm : ps.length ≤ 1048577 := by have := HC.out.many; omega
    have wsz := fr.size
    by_cases hlt : j < s.size
    · have qlt : (j : Int) < (s.size : Int) := by omega
      have hl2 : j < s.data.toList.length := by have := HL.out; omega
      by_cases hx : s[j] = 10
      · have qx : ((s[j].toNat : Int) == 10) = true := by rw [hx]; rfl
        have HX := Lib.hid hx
        clear hx
        go_wp2_with (at_builtin; refine wpList_append_own _ rfl _ _ 51 rfl w.heap.size 9 i0 (.string ⟨#[]⟩) 1 16 Tryd.underlying51 HI.out HZ0.out HZ1.out HZ2.out rfl (by decide) _ _ _ rfl (hown.alloc _) ⟨wr.heap.size, 0, none⟩ 1 1 [.string (s.extract k j)] rfl rfl ?c1 ?c2 ?c3 ?c4 ?c5 ?_)
        case c1 =>
          intro k u hk
          cases k with
          | zero => simp at hk; subst hk; exact World.cell?_alloc_at _ _ _ _ rfl
          | succ k => simp at hk
        case c2 => first | rfl | (intro u hu; simp at hu; subst hu; rfl)
        case c3 => unfold maxLen; omega
        case c4 => omega
        case c5 => simp; omega
        intro v' w3 hown' hgrow _
        have f3 : Fr No w w3 := by
          refine (fr.alloc _).grown hgrow ?_
          intro k hk
          exact .inr (hown.lt _ hk).1
        clear hgrow
        go_wp2_with fail
        go_roundw
        case rel =>
          refine ⟨j + 1, j + 1, ps ++ [s.extract k j], by go_num, by go_num, Nat.le_refl _, by omega, Lib.hid (HC.out.hit hl2 (by rw [at_list s j hlt hl2]; exact HX.out) _ (by rw [Lib.extract_data])), ?_, f3⟩
          rw [List.length_append, List.map_append]
          exact hown'
        case measure => simp [intOf]; omega
      · have qx : ((s[j].toNat : Int) == 10) = false := by
          rw [beq_eq_false_iff_ne]
          intro e
          exact hx (UInt8.toNat_inj.1 (by have h : (10 : UInt8).toNat = 10 := rfl; omega))
        have HX := Lib.hid hx
        clear hx
        go_wp2_with fail
        go_roundw
        case rel => exact ⟨j + 1, k, ps, by go_num, rfl, by omega, by omega, Lib.hid (HC.out.next hl2 (by rw [at_list s j hlt hl2]) HX.out), hown, fr⟩
        case measure => simp [intOf]; omega
    · obtain rfl : j = s.size := by omega
      have hd : Scr.parts Scr.newline s = ps ++ [s.extract k s.size] := by
        have h := HC.out
        rw [HL.out] at h
        exact h.parts _ (by rw [Lib.extract_to_end])
      obtain ⟨hd1, hd2⟩ := Scr.parts_snoc hd
      have hd3 : (Scr.last s).data.toList = s.data.toList.drop k := by rw [hd2, Lib.extract_to_end]
      have HD := Lib.hid hd1
      have HD2 := Lib.hid hd2
      have HD3 := Lib.hid hd3
      clear hd hd1 hd2 hd3
      by_cases hk : k < s.size
      · have qk : (k : Int) < (s.size : Int) := by omega
        have hr : Scr.rlines s = (ps ++ [s.extract k s.size], false) := by
          unfold Scr.rlines
          rw [if_neg, HD.out, HD2.out]
          rw [HD3.out]
          intro e
          have := congrArg List.length e
          rw [List.length_drop, ← HL.out] at this
          simp at this
          omega
        have HR := Lib.hid hr
        clear hr
        go_wp2_with (at_builtin; refine wpList_append_own _ rfl _ _ 51 rfl w.heap.size 9 i0 (.string ⟨#[]⟩) 1 16 Tryd.underlying51 HI.out HZ0.out HZ1.out HZ2.out rfl (by decide) _ _ _ rfl (hown.alloc _) ⟨wr.heap.size, 0, none⟩ 1 1 [.string (s.extract k s.size)] rfl rfl ?c1 ?c2 ?c3 ?c4 ?c5 ?_)
        case c1 =>
          intro k u hk
          cases k with
          | zero => simp at hk; subst hk; exact World.cell?_alloc_at _ _ _ _ rfl
          | succ k => simp at hk
        case c2 => first | rfl | (intro u hu; simp at hu; subst hu; rfl)
        case c3 => unfold maxLen; omega
        case c4 => omega
        case c5 => simp; omega
        intro v' w3 hown' hgrow _
        have f3 : Fr No w w3 := by
          refine (fr.alloc _).grown hgrow ?_
          intro k hk
          exact .inr (hown.lt _ hk).1
        clear hgrow
        go_wp2_with fail
        go_ret2
        refine ⟨_, (by rw [HR.out]; rfl), ?_, f3⟩
        rw [HR.out, List.length_append, List.map_append]
        exact hown'
      · have qk : ¬ (k : Int) < (s.size : Int) := by omega
        have hr : Scr.rlines s = (ps, true) := by
          unfold Scr.rlines
          rw [if_pos, HD.out]
          rw [HD3.out, List.drop_eq_nil_of_le]
          rw [← HL.out]; omega
        have HR := Lib.hid hr
        clear hr
        go_wp2_with fail
        go_ret2
        refine ⟨_, (by rw [HR.out]; rfl), ?_, fr⟩
        rw [HR.out]
        exact hown
end Go.Proofs.YtkcgijidgppeiaaDoor
